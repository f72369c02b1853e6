import Derived.Test.YtblphhclfloodaaDoorJ1
import Derived.Test.YtblphhclfloodaaDoorG1
import Derived.Test.YtblphhclfloodaaDoorV4
import Derived.Test.YtblphhclfloodaaDoorT2
namespace Go.Proofs.YtblphhclfloodaaDoor
open Go Go.Er
set_option linter.unusedSimpArgs false in
theorem places50 : Places Tryd.prog #[⟨ "At", 43, 0, false, "", "", 0⟩, ⟨ "N", 38, 32, false, "", "", 32⟩, ⟨ "Off", 48, 33, false, "", "", 40⟩] [(0, 32), (32, 1), (33, 32)] := fun w => by simp [Tryd.sizeOf38 w, Tryd.sizeOf43 w, Tryd.sizeOf48 w]
theorem shr_many {n : Int} (h0 : 0 ≤ n) (h1 : n ≤ 17) : Int.fdiv 131072 (2 ^ (min n.toNat IntKind.i64.bits)) = many n := by
  obtain ⟨k, rfl⟩ : ∃ k : Nat, n = (k : Int) := ⟨n.toNat, by omega⟩
  have h : ∀ k : Nat, k < 18 → Int.fdiv 131072 (2 ^ (min ((k : Int)).toNat IntKind.i64.bits)) = many (k : Int) := by decide
  exact h k (by omega)

set_option maxHeartbeats 4000000 in
theorem few_law (seed : Key) (a : Option Addr) (cap : Nat) (ns : List Int) (hu : U64 ns) (w0 : World) (hr : URow w0 a ns) (hT : TabH w0) :
    Calls Tryd.prog 9 #[.agg (kC seed).toArray, .slice a ns.length cap] w0 fun e w => ∃ v, e = .returned v ∧ (v = .bool true ∧ St w0 [] w []) := by
  have H := St.refl w0
  refine c_enter (args := [.agg (kC seed).toArray, .slice a ns.length cap]) (l := [.agg (kC seed).toArray, .slice a ns.length cap, undef, undef, undef, undef, undef, undef, undef, undef, undef, undef, undef, undef, undef, undef, undef, undef, undef, undef, undef, undef, undef, undef, undef, undef, undef, undef, undef, undef, undef, undef, undef, undef, undef, undef, undef, undef, undef, undef, undef, undef, undef, undef, undef, undef, undef, undef, undef, undef, undef, undef, undef, undef, undef, undef, undef, undef, undef, undef, undef, undef, undef, undef, undef, undef, undef, undef, undef, undef, undef, undef, undef, undef, undef, undef, undef, undef, undef, undef, undef, undef, undef, undef, undef, undef, undef, undef]) Tryd.func9 Tryd.ntmps9 rfl rfl ?_
  refine c_rseq (n := 88) ⟨rfl, rfl⟩ ?_
  refine s_new (m_box (cs := (kC seed)) H rfl rfl) ?_
  intro w b2 H
  refine s_val (r_assign rfl) ?_
  refine c_nil (l' := [_, _, _, _, _, _, _, _, _, _, _, _, _, _, _, _, _, _, _, _, _, _, _, _, _, _, _, _, _, _, _, _, _, _, _, _, _, _, _, _, _, _, _, _, _, _, _, _, _, _, _, _, _, _, _, _, _, _, _, _, _, _, _, _, _, _, _, _, _, _, _, _, _, _, _, _, _, _, _, _, _, _, _, _, _, _, _, _]) rfl ?_
  refine c_seq ?_
  refine c_rseq (n := 88) ⟨rfl, rfl⟩ ?_
  refine s_call (r_call Tryd.call11 en) (awake_spec _ (hT.st H)) ?_
  rintro v w ⟨rfl, HC⟩
  replace H := H.quiet HC
  refine s_val (r_not rfl) ?_
  refine c_nil (l' := [_, _, _, _, _, _, _, _, _, _, _, _, _, _, _, _, _, _, _, _, _, _, _, _, _, _, _, _, _, _, _, _, _, _, _, _, _, _, _, _, _, _, _, _, _, _, _, _, _, _, _, _, _, _, _, _, _, _, _, _, _, _, _, _, _, _, _, _, _, _, _, _, _, _, _, _, _, _, _, _, _, _, _, _, _, _, _, _]) rfl ?_
  refine c_iff rfl ?_
  refine wp_skip ?_
  refine x_thenNormal ?_
  refine c_seq ?_
  refine c_rseq (n := 88) ⟨rfl, rfl⟩ ?_
  refine s_val (r_move rfl) ?_
  refine s_val (r_lens Tryd.runUnderlying44 (ec rfl en)) ?_
  refine s_val (r_gtr rfl rfl) ?_
  refine c_nil (l' := [_, _, _, _, _, _, _, _, _, _, _, _, _, _, _, _, _, _, _, _, _, _, _, _, _, _, _, _, _, _, _, _, _, _, _, _, _, _, _, _, _, _, _, _, _, _, _, _, _, _, _, _, _, _, _, _, _, _, _, _, _, _, _, _, _, _, _, _, _, _, _, _, _, _, _, _, _, _, _, _, _, _, _, _, _, _, _, _]) rfl ?_
  refine c_if rfl (fun h20 => ?_) (fun h20 => ?_)
  · skip
    skip
    refine c_rseq (n := 88) ⟨rfl, rfl⟩ ?_
    refine s_val (r_assign rfl) ?_
    refine c_nil (l' := [_, _, _, _, _, _, _, _, _, _, _, _, _, _, _, _, _, _, _, _, _, _, _, _, _, _, _, _, _, _, _, _, _, _, _, _, _, _, _, _, _, _, _, _, _, _, _, _, _, _, _, _, _, _, _, _, _, _, _, _, _, _, _, _, _, _, _, _, _, _, _, _, _, _, _, _, _, _, _, _, _, _, _, _, _, _, _, _]) rfl ?_
    refine wp_ret (x_thenRet ?_)
    refine e_ret (res1 rfl rfl) ⟨_, rfl, ?_⟩
    exact ⟨rfl, H.sub (List.nil_sublist _)⟩
  · skip
    refine wp_skip ?_
    refine x_thenNormal ?_
    refine c_rseq (n := 88) ⟨rfl, rfl⟩ ?_
    refine s_val (r_buildS Tryd.runUnderlying50 Tryd.zeroValue50 places50 pn rfl) ?_
    refine s_val (r_makeIface Tryd.runUnderlying50 (fun _ h => nomatch h) rfl) ?_
    refine s_val (r_loadn Tryd.isAgg43 Tryd.sizeOf43 rfl (H.at 0 rfl) (by first | exact (kC_td _) | exact (hC_td _) | exact (hC_seed _)) (by first | exact (kC_length _) | exact (hC_length _) | exact rfl)) ?_
    refine s_call (r_call Tryd.call18 (ec rfl (ec rfl en))) (new_spec _ _ litL litR (splits_lit _) _) ?_
    rintro v w ⟨bt, N, rfl, hT0, HC⟩
    obtain ⟨ci, hci, hTr⟩ : ∃ ci, SplitsBy Tryd.prog ci litL litR ∧ TreeN 77 55 bt ci [root seed] N := ⟨_, splits_lit _, hT0⟩
    replace H : St w0 [] _ (_ :: N) := (H.call0 HC).perm (List.perm_append_comm (l₁ := [_]))
    refine s_val (r_assign rfl) ?_
    refine c_nil (l' := [_, _, _, _, _, _, _, _, _, _, _, _, _, _, _, _, _, _, _, _, _, _, _, _, _, _, _, _, _, _, _, _, _, _, _, _, _, _, _, _, _, _, _, _, _, _, _, _, _, _, _, _, _, _, _, _, _, _, _, _, _, _, _, _, _, _, _, _, _, _, _, _, _, _, _, _, _, _, _, _, _, _, _, _, _, _, _, _]) rfl ?_
    refine c_rseq (n := 88) ⟨rfl, rfl⟩ ?_
    refine s_val (r_assign rfl) ?_
    refine c_nil (l' := [_, _, _, _, _, _, _, _, _, _, _, _, _, _, _, _, _, _, _, _, _, _, _, _, _, _, _, _, _, _, _, _, _, _, _, _, _, _, _, _, _, _, _, _, _, _, _, _, _, _, _, _, _, _, _, _, _, _, _, _, _, _, _, _, _, _, _, _, _, _, _, _, _, _, _, _, _, _, _, _, _, _, _, _, _, _, _, _]) rfl ?_
    refine c_seq ?_
    refine c_rseq (n := 88) ⟨rfl, rfl⟩ ?_
    refine s_val (r_move rfl) ?_
    refine s_val (r_lens Tryd.runUnderlying44 (ec rfl en)) ?_
    refine s_val (r_move rfl) ?_
    refine c_nil (l' := [_, _, _, _, _, _, _, _, _, _, _, _, _, _, _, _, _, _, _, _, _, _, _, _, _, _, _, _, _, _, _, _, _, _, _, _, _, _, _, _, _, _, _, _, _, _, _, _, _, _, _, _, _, _, _, _, _, _, _, _, _, _, _, _, _, _, _, _, _, _, _, _, _, _, _, _, _, _, _, _, _, _, _, _, _, _, _, _]) rfl ?_
    refine wp_block ?_
    refine c_loop (fun (l0 : List Value) (i : Nat) (l : List Value) (w : World) => ∃ (u8 u28 u29 u30 u31 u32 u33 u34 u35 u36 u37 : Value) (N : List (Nat × Obj)) (la : List Int) (xs : List Held) (mc : Nat), l = ovr l0 [N_, N_, N_, N_, N_, N_, Y_ (.int .i64 mc), N_, Y_ u8, N_, N_, N_, N_, N_, N_, N_, N_, N_, N_, N_, N_, N_, N_, N_, N_, N_, N_, Y_ (.int .i64 i), Y_ u28, Y_ u29, Y_ u30, Y_ u31, Y_ u32, Y_ u33, Y_ u34, Y_ u35, Y_ u36, Y_ u37] ∧ i ≤ ns.length ∧ xs = tree0 litL litR seed la ∧ TreeN 77 55 bt ci xs N ∧ cnt xs = 131072 - mc ∧ mc ≤ i ∧ xs.length ≤ 1 + 17 * mc ∧ St w0 [] w ((b2, .cells (kC seed).toArray 43 (0, 0)) :: N)) (fun (i : Nat) => ns.length - i) 0 ⟨_, _, _, _, _, _, _, _, _, _, _, N, [], [root seed], 0, rfl, by omega, tree0_nil.symm, hTr, by rw [cnt_cons]; show many 0 + cnt [] = _; rw [many_zero]; rfl, by omega, by show 1 ≤ _; omega, H⟩ ?_
    intro i l w ⟨u8, u28, u29, u30, u31, u32, u33, u34, u35, u36, u37, N, la, xs, mc, hl, hi, hxs, hTr, hcx, hmc, hlx, H⟩
    obtain rfl := hl.trans (rfl : _ = [_, _, _, _, _, _, _, _, _, _, _, _, _, _, _, _, _, _, _, _, _, _, _, _, _, _, _, _, _, _, _, _, _, _, _, _, _, _, _, _, _, _, _, _, _, _, _, _, _, _, _, _, _, _, _, _, _, _, _, _, _, _, _, _, _, _, _, _, _, _, _, _, _, _, _, _, _, _, _, _, _, _, _, _, _, _, _, _])
    clear hl
    have hvx : Valid xs := by rw [hxs]; exact tree0_valid la
    refine c_rseq (n := 88) ⟨rfl, rfl⟩ ?_
    refine s_val (r_lss rfl rfl) ?_
    refine c_nil (l' := [_, _, _, _, _, _, _, _, _, _, _, _, _, _, _, _, _, _, _, _, _, _, _, _, _, _, _, _, _, _, _, _, _, _, _, _, _, _, _, _, _, _, _, _, _, _, _, _, _, _, _, _, _, _, _, _, _, _, _, _, _, _, _, _, _, _, _, _, _, _, _, _, _, _, _, _, _, _, _, _, _, _, _, _, _, _, _, _]) rfl ?_
    refine c_seq ?_
    refine c_if rfl (fun h28 => ?_) (fun h28 => ?_)
    · skip
      obtain ⟨bu, off, pre, post, T, fz, rfl, hbu, hpu⟩ := hr (by omega)
      obtain ⟨hn0, hn1⟩ := hu.get (i := i) (by omega)
      refine wp_skip ?_
      refine x_thenNormal ?_
      refine c_seq ?_
      refine wp_block ?_
      refine c_rseq (n := 88) ⟨rfl, rfl⟩ ?_
      refine s_val (r_indexAddrS Tryd.runUnderlying44 Tryd.sizeOf38 rfl rfl (by omega) (by omega)) ?_
      refine s_val (r_load1 Tryd.isAgg38 rfl (H.rd0 hbu) (u_get pre ns post i hpu (by omega) (by omega))) ?_
      refine s_val (r_assign rfl) ?_
      refine c_nil (l' := [_, _, _, _, _, _, _, _, _, _, _, _, _, _, _, _, _, _, _, _, _, _, _, _, _, _, _, _, _, _, _, _, _, _, _, _, _, _, _, _, _, _, _, _, _, _, _, _, _, _, _, _, _, _, _, _, _, _, _, _, _, _, _, _, _, _, _, _, _, _, _, _, _, _, _, _, _, _, _, _, _, _, _, _, _, _, _, _]) rfl ?_
      refine c_rseq (n := 88) ⟨rfl, rfl⟩ ?_
      refine s_val (r_move rfl) ?_
      refine s_val (r_move rfl) ?_
      refine s_val (r_rem rfl rfl (by omega) (Int.tmod_eq_emod_of_nonneg (by omega))) ?_
      refine s_call (r_call Tryd.call19 (ec rfl (ec rfl en))) (punc_t _ _ xs (ns.getD i 0 % 131072) N litL litR hci (by omega) hvx (by omega) (by omega) _ hTr (H.ownsM (.cons _ (List.Sublist.refl _)))) ?_
      rintro v w ⟨rfl, N2, hT2, HC⟩
      replace H : St w0 [] _ (_ :: N2) := St.callr (L := [_]) H HC
      refine c_nil (l' := [_, _, _, _, _, _, _, _, _, _, _, _, _, _, _, _, _, _, _, _, _, _, _, _, _, _, _, _, _, _, _, _, _, _, _, _, _, _, _, _, _, _, _, _, _, _, _, _, _, _, _, _, _, _, _, _, _, _, _, _, _, _, _, _, _, _, _, _, _, _, _, _, _, _, _, _, _, _, _, _, _, _, _, _, _, _, _, _]) rfl ?_
      refine c_if rfl (fun h34 => ?_) (fun h34 => ?_)
      · skip
        have hcp : cnt (punc litL litR xs (ns.getD i 0 % 131072)) = cnt xs - 1 := by
          obtain ⟨x, hx, hxi⟩ := h34
          obtain ⟨j, hj, rfl⟩ := nd_mem hx
          exact cnt_punc hvx hj hxi
        have hlp := len_tree (sl := litL) (sr := litR) (n := (ns.getD i 0 % 131072)) hvx
        refine c_region (n := 88) ⟨rfl, rfl⟩ ?_
        refine s_val (r_move rfl) ?_
        refine s_val (r_add rfl rfl (w_i64 (by omega) (by omega))) ?_
        refine s_val (r_assign rfl) ?_
        refine c_nil0 (l' := [_, _, _, _, _, _, _, _, _, _, _, _, _, _, _, _, _, _, _, _, _, _, _, _, _, _, _, _, _, _, _, _, _, _, _, _, _, _, _, _, _, _, _, _, _, _, _, _, _, _, _, _, _, _, _, _, _, _, _, _, _, _, _, _, _, _, _, _, _, _, _, _, _, _, _, _, _, _, _, _, _, _, _, _, _, _, _, _]) rfl ?_
        refine x_blockNormal ?_
        refine x_thenNormal ?_
        refine c_region (n := 88) ⟨rfl, rfl⟩ ?_
        refine s_val (r_add rfl rfl (w_i64 (by omega) (by omega))) ?_
        refine s_val (r_move rfl) ?_
        refine c_nil0 (l' := [_, _, _, _, _, _, _, _, _, _, _, _, _, _, _, _, _, _, _, _, _, _, _, _, _, _, _, _, _, _, _, _, _, _, _, _, _, _, _, _, _, _, _, _, _, _, _, _, _, _, _, _, _, _, _, _, _, _, _, _, _, _, _, _, _, _, _, _, _, _, _, _, _, _, _, _, _, _, _, _, _, _, _, _, _, _, _, _]) rfl ?_
        exact ⟨i + 1, _, rfl, ⟨_, _, _, _, _, _, _, _, _, _, _, N2, _, (punc litL litR xs (ns.getD i 0 % 131072)), mc + 1, rfl, by omega, by rw [hxs, tree0_punc], hT2, by omega, by omega, by omega, H⟩, by omega⟩
      · skip
        have hcp : cnt (punc litL litR xs (ns.getD i 0 % 131072)) = cnt xs := by rw [punc_off h34]
        have hlp : (punc litL litR xs (ns.getD i 0 % 131072)).length = xs.length := by rw [punc_off h34]
        refine wp_skip ?_
        refine x_blockNormal ?_
        refine x_thenNormal ?_
        refine c_region (n := 88) ⟨rfl, rfl⟩ ?_
        refine s_val (r_add rfl rfl (w_i64 (by omega) (by omega))) ?_
        refine s_val (r_move rfl) ?_
        refine c_nil0 (l' := [_, _, _, _, _, _, _, _, _, _, _, _, _, _, _, _, _, _, _, _, _, _, _, _, _, _, _, _, _, _, _, _, _, _, _, _, _, _, _, _, _, _, _, _, _, _, _, _, _, _, _, _, _, _, _, _, _, _, _, _, _, _, _, _, _, _, _, _, _, _, _, _, _, _, _, _, _, _, _, _, _, _, _, _, _, _, _, _]) rfl ?_
        exact ⟨i + 1, _, rfl, ⟨_, _, _, _, _, _, _, _, _, _, _, N2, _, (punc litL litR xs (ns.getD i 0 % 131072)), mc, rfl, by omega, by rw [hxs, tree0_punc], hT2, by omega, by omega, by omega, H⟩, by omega⟩
    · skip
      obtain rfl : i = ns.length := by omega
      refine wp_exit (x_thenExit (x_thenExit (x_blockHit ?_)))
      refine x_thenNormal ?_
      refine c_rseq (n := 88) ⟨rfl, rfl⟩ ?_
      refine s_val (r_move rfl) ?_
      refine s_call (r_call Tryd.call20 (ec rfl en)) (held_spec _ _ xs N (by omega) hvx _ hTr (H.ownsM (.cons _ (List.Sublist.refl _)))) ?_
      rintro v w ⟨ah, caph, Nh, rfl, hNh, HC⟩
      replace H := H.call0 HC
      refine s_call (r_call Tryd.call12 (ec rfl en)) (enc_ok _ _ xs (by omega) hvx.inR _ (hNh.hrowM H (fun p hp => List.mem_append_left _ hp)) (hT.st H) hvx) ?_
      rintro v w ⟨ab, capb, Nb, rfl, hNb, HC⟩
      replace H := H.call0 HC
      refine s_val (r_move rfl) ?_
      refine s_val (r_extract rfl rfl) ?_
      refine s_val (r_extract rfl rfl) ?_
      refine s_val (r_assign rfl) ?_
      refine s_val (r_assign rfl) ?_
      refine c_nil (l' := [_, _, _, _, _, _, _, _, _, _, _, _, _, _, _, _, _, _, _, _, _, _, _, _, _, _, _, _, _, _, _, _, _, _, _, _, _, _, _, _, _, _, _, _, _, _, _, _, _, _, _, _, _, _, _, _, _, _, _, _, _, _, _, _, _, _, _, _, _, _, _, _, _, _, _, _, _, _, _, _, _, _, _, _, _, _, _, _]) rfl ?_
      refine c_rseq (n := 88) ⟨rfl, rfl⟩ ?_
      refine s_val (r_move rfl) ?_
      refine s_call (r_call Tryd.call16 (ec rfl en)) (dec_ok _ _ xs (by omega) hNb.2.1 _ (hNb.browM H (fun p hp => List.mem_append_left _ hp)) (hT.st H) hvx) ?_
      rintro v w ⟨al, capl, Nl, rfl, hNl, HC⟩
      replace H : St w0 [] _ (Nl ++ N) := (H.call0 HC).sub (List.Sublist.append (List.Sublist.refl _) (((List.Sublist.cons _ (List.Sublist.refl N)).trans (List.sublist_append_right Nh _)).trans (List.sublist_append_right Nb _)))
      refine s_val (r_move rfl) ?_
      refine s_val (r_extract rfl rfl) ?_
      refine s_val (r_extract rfl rfl) ?_
      refine s_val (r_assign rfl) ?_
      refine s_val (r_assign rfl) ?_
      refine c_nil (l' := [_, _, _, _, _, _, _, _, _, _, _, _, _, _, _, _, _, _, _, _, _, _, _, _, _, _, _, _, _, _, _, _, _, _, _, _, _, _, _, _, _, _, _, _, _, _, _, _, _, _, _, _, _, _, _, _, _, _, _, _, _, _, _, _, _, _, _, _, _, _, _, _, _, _, _, _, _, _, _, _, _, _, _, _, _, _, _, _]) rfl ?_
      refine c_rseq (n := 88) ⟨rfl, rfl⟩ ?_
      refine s_val (r_assign rfl) ?_
      refine c_nil (l' := [_, _, _, _, _, _, _, _, _, _, _, _, _, _, _, _, _, _, _, _, _, _, _, _, _, _, _, _, _, _, _, _, _, _, _, _, _, _, _, _, _, _, _, _, _, _, _, _, _, _, _, _, _, _, _, _, _, _, _, _, _, _, _, _, _, _, _, _, _, _, _, _, _, _, _, _, _, _, _, _, _, _, _, _, _, _, _, _]) rfl ?_
      refine c_seq ?_
      refine c_rseq (n := 88) ⟨rfl, rfl⟩ ?_
      refine s_val (r_move rfl) ?_
      refine s_val (r_lens Tryd.runUnderlying22 (ec rfl en)) ?_
      refine s_val (r_move rfl) ?_
      refine c_nil (l' := [_, _, _, _, _, _, _, _, _, _, _, _, _, _, _, _, _, _, _, _, _, _, _, _, _, _, _, _, _, _, _, _, _, _, _, _, _, _, _, _, _, _, _, _, _, _, _, _, _, _, _, _, _, _, _, _, _, _, _, _, _, _, _, _, _, _, _, _, _, _, _, _, _, _, _, _, _, _, _, _, _, _, _, _, _, _, _, _]) rfl ?_
      refine wp_block ?_
      refine c_loop (fun (l0 : List Value) (k : Nat) (l : List Value) (w : World) => ∃ (u15 u52 u53 u54 u55 u56 u57 u58 u59 u60 u61 : Value) , l = ovr l0 [N_, N_, N_, N_, N_, N_, N_, N_, N_, N_, N_, N_, N_, Y_ (.int .i64 (cnt (xs.take k))), N_, Y_ u15, N_, N_, N_, N_, N_, N_, N_, N_, N_, N_, N_, N_, N_, N_, N_, N_, N_, N_, N_, N_, N_, N_, N_, N_, N_, N_, N_, N_, N_, N_, N_, N_, N_, N_, N_, Y_ (.int .i64 k), Y_ u52, Y_ u53, Y_ u54, Y_ u55, Y_ u56, Y_ u57, Y_ u58, Y_ u59, Y_ u60, Y_ u61] ∧ k ≤ xs.length ∧ St w0 [] w (Nl ++ N)) (fun (k : Nat) => xs.length - k) 0 ⟨_, _, _, _, _, _, _, _, _, _, _, rfl, by omega, H⟩ ?_
      intro k l w ⟨u15, u52, u53, u54, u55, u56, u57, u58, u59, u60, u61, hl, hk, H⟩
      obtain rfl := hl.trans (rfl : _ = [_, _, _, _, _, _, _, _, _, _, _, _, _, _, _, _, _, _, _, _, _, _, _, _, _, _, _, _, _, _, _, _, _, _, _, _, _, _, _, _, _, _, _, _, _, _, _, _, _, _, _, _, _, _, _, _, _, _, _, _, _, _, _, _, _, _, _, _, _, _, _, _, _, _, _, _, _, _, _, _, _, _, _, _, _, _, _, _])
      clear hl
      have hcb := cnt_takeb hvx k
      refine c_rseq (n := 88) ⟨rfl, rfl⟩ ?_
      refine s_val (r_lss rfl rfl) ?_
      refine c_nil (l' := [_, _, _, _, _, _, _, _, _, _, _, _, _, _, _, _, _, _, _, _, _, _, _, _, _, _, _, _, _, _, _, _, _, _, _, _, _, _, _, _, _, _, _, _, _, _, _, _, _, _, _, _, _, _, _, _, _, _, _, _, _, _, _, _, _, _, _, _, _, _, _, _, _, _, _, _, _, _, _, _, _, _, _, _, _, _, _, _]) rfl ?_
      refine c_seq ?_
      refine c_if rfl (fun h52 => ?_) (fun h52 => ?_)
      · skip
        obtain ⟨bh, off, pre, post, T, fz, rfl, hb, hpo⟩ := (hNl.hrowM H (fun p hp => List.mem_append_left _ hp)) (by omega)
        obtain ⟨hd0, hd1, ha0, ha2, ha1⟩ := hvx.get (i := k) (by omega)
        have hmp := many_pos (nd xs k).depth
        have hml := many_le hd0
        refine wp_skip ?_
        refine x_thenNormal ?_
        refine c_seq ?_
        refine wp_block ?_
        refine c_rseq (n := 88) ⟨rfl, rfl⟩ ?_
        refine s_val (r_indexAddrS Tryd.runUnderlying22 Tryd.sizeOf55 rfl rfl (by omega) (by omega)) ?_
        refine s_val (r_loadn Tryd.isAgg55 Tryd.sizeOf55 rfl hb (hs_tdn _ _ _ _ k hpo (by omega)) (by first | exact (kC_length _) | exact (hC_length _) | exact rfl)) ?_
        refine s_new (m_alloc (cs := (hC Held.zero)) H Tryd.zeroValue55 rfl) ?_
        intro w b15 H
        refine s_st (m_storen H 0 34 Tryd.sizeOf55 rfl rfl (by first | exact (kC_length _) | exact (hC_length _)) (by first | exact (kC_one _) | exact (hC_one _)) rfl (by first | exact (by rw [kC_length]; omega) | exact (by rw [hC_length]; omega)) (by first | exact (kC_sp _ _) | exact (hC_sp _ _))) (L' := (_ :: _)) rfl ?_
        intro w H
        refine c_nil (l' := [_, _, _, _, _, _, _, _, _, _, _, _, _, _, _, _, _, _, _, _, _, _, _, _, _, _, _, _, _, _, _, _, _, _, _, _, _, _, _, _, _, _, _, _, _, _, _, _, _, _, _, _, _, _, _, _, _, _, _, _, _, _, _, _, _, _, _, _, _, _, _, _, _, _, _, _, _, _, _, _, _, _, _, _, _, _, _, _]) rfl ?_
        refine c_region (n := 88) ⟨rfl, rfl⟩ ?_
        refine s_val (r_move rfl) ?_
        refine s_val (r_fieldAddr (k := 0) Tryd.runUnderlying55 rfl Tryd.sizeOf3 (by decide) rfl rfl) ?_
        refine s_val (r_load1 Tryd.isAgg3 rfl (H.at 0 rfl) (by first | exact rfl | exact (hC_00 _) | exact (hC_0 _) | exact (hC_1 _))) ?_
        refine s_val (r_conv Tryd.runUnderlying3 Tryd.runUnderlying59 rfl (w_u64 (by omega) (by omega))) ?_
        refine s_val (r_shr rfl rfl (by omega) (shr_many hd0 hd1)) ?_
        refine s_val (r_add rfl rfl (w_i64e (r := cnt (xs.take (k + 1))) (cnt_take (by omega)).symm (by omega) (by omega))) ?_
        refine s_val (r_assign rfl) ?_
        refine c_nil0 (l' := [_, _, _, _, _, _, _, _, _, _, _, _, _, _, _, _, _, _, _, _, _, _, _, _, _, _, _, _, _, _, _, _, _, _, _, _, _, _, _, _, _, _, _, _, _, _, _, _, _, _, _, _, _, _, _, _, _, _, _, _, _, _, _, _, _, _, _, _, _, _, _, _, _, _, _, _, _, _, _, _, _, _, _, _, _, _, _, _]) rfl ?_
        refine x_blockNormal ?_
        refine x_thenNormal ?_
        refine c_region (n := 88) ⟨rfl, rfl⟩ ?_
        refine s_val (r_add rfl rfl (w_i64 (by omega) (by omega))) ?_
        refine s_val (r_move rfl) ?_
        refine c_nil0 (l' := [_, _, _, _, _, _, _, _, _, _, _, _, _, _, _, _, _, _, _, _, _, _, _, _, _, _, _, _, _, _, _, _, _, _, _, _, _, _, _, _, _, _, _, _, _, _, _, _, _, _, _, _, _, _, _, _, _, _, _, _, _, _, _, _, _, _, _, _, _, _, _, _, _, _, _, _, _, _, _, _, _, _, _, _, _, _, _, _]) rfl ?_
        replace H := H.sub (.cons _ (List.Sublist.refl _))
        exact ⟨k + 1, _, rfl, ⟨_, _, _, _, _, _, _, _, _, _, _, rfl, by omega, H⟩, by omega⟩
      · skip
        obtain rfl : k = xs.length := by omega
        rw [List.take_length]
        have hel := encB_length xs
        refine wp_exit (x_thenExit (x_thenExit (x_blockHit ?_)))
        refine x_thenNormal ?_
        refine c_rseq (n := 88) ⟨rfl, rfl⟩ ?_
        refine s_val (r_move rfl) ?_
        refine s_val (r_eql rfl rfl) ?_
        refine s_val (r_move rfl) ?_
        refine g_yes rfl rfl ?_
        refine s_val (r_move rfl) ?_
        refine g_yes rfl rfl ?_
        refine s_val (r_eql rfl rfl) ?_
        refine s_val (r_pickt rfl rfl) ?_
        refine s_val (r_move rfl) ?_
        refine g_yes rfl rfl ?_
        refine s_val (r_move rfl) ?_
        refine g_yes rfl rfl ?_
        refine s_val (r_lens Tryd.runUnderlying24 (ec rfl en)) ?_
        refine g_yes rfl rfl ?_
        refine s_val (r_move rfl) ?_
        refine g_yes rfl rfl ?_
        refine s_val (r_mul rfl rfl (w_i64 (by omega) (by omega))) ?_
        refine g_yes rfl rfl ?_
        refine s_val (r_add rfl rfl (w_i64 (by omega) (by omega))) ?_
        refine g_yes rfl rfl ?_
        refine s_test (r_leq rfl rfl) (fun h74 => ?_) (fun h74 => ?_)
        · skip
          refine s_val (r_pickt rfl rfl) ?_
          refine s_val (r_move rfl) ?_
          refine g_yes rfl rfl ?_
          refine s_val (r_move rfl) ?_
          refine g_yes rfl rfl ?_
          refine s_val (r_move rfl) ?_
          refine g_yes rfl rfl ?_
          refine s_val (r_add rfl rfl (w_i64 (by omega) (by omega))) ?_
          refine g_yes rfl rfl ?_
          refine s_test (r_eql rfl rfl) (fun h80 => ?_) (fun h80 => ?_)
          · skip
            refine s_val (r_pickt rfl rfl) ?_
            refine s_val (r_move rfl) ?_
            refine g_yes rfl rfl ?_
            refine s_val (r_move rfl) ?_
            refine g_yes rfl rfl ?_
            refine s_val (r_move rfl) ?_
            refine g_yes rfl rfl ?_
            refine s_call (r_call Tryd.call21 (ec rfl en)) (count_spec _ _ xs N (by omega) hvx _ hTr (H.ownsM (List.sublist_append_right _ _))) ?_
            rintro v w ⟨rfl, HC⟩
            replace H := H.quiet HC
            refine g_yes rfl rfl ?_
            refine s_val (r_eql rfl rfl) ?_
            refine s_val (r_pickt rfl rfl) ?_
            refine s_val (r_assign rfl) ?_
            refine c_nil (l' := [_, _, _, _, _, _, _, _, _, _, _, _, _, _, _, _, _, _, _, _, _, _, _, _, _, _, _, _, _, _, _, _, _, _, _, _, _, _, _, _, _, _, _, _, _, _, _, _, _, _, _, _, _, _, _, _, _, _, _, _, _, _, _, _, _, _, _, _, _, _, _, _, _, _, _, _, _, _, _, _, _, _, _, _, _, _, _, _]) rfl ?_
            refine wp_ret ?_
            refine e_ret (res1 rfl rfl) ⟨_, rfl, ?_⟩
            exact ⟨by rw [decide_eq_true rfl], H.sub (List.nil_sublist _)⟩
          · skip
            exfalso; omega
        · skip
          exfalso; omega

end Go.Proofs.YtblphhclfloodaaDoor
