import Derived.Test.YtblphhclfloodaaDoorJ2
import Derived.Test.YtblphhclfloodaaDoorT6
import Derived.Test.YtblphhclfloodaaDoorG6
namespace Go.Proofs.YtblphhclfloodaaDoor
open Go Go.Er
theorem keyT43 : KeyT Tryd.prog 43 := ⟨by kernel_rfl, 5, Tryd.underlying43, Tryd.underlying5, Tryd.sizeOf5⟩
theorem bytes38 : Tryd.t38.bytes = 8 := rfl

set_option maxHeartbeats 4000000 in
set_option maxRecDepth 20000 in
theorem back_law (seed : Key) (a : Option Addr) (cap : Nat) (ns : List Int) (hu : U64 ns) (q : Int) (hq0 : 0 ≤ q) (_hq1 : q < 18446744073709551616) (w0 : World) (hr : URow w0 a ns) (hT : TabH w0) :
    Calls Tryd.prog 10 #[.agg (kC seed).toArray, .slice a ns.length cap, .int .u64 q] w0 fun e w => ∃ v, e = .returned v ∧ (v = .bool true ∧ St w0 [] w []) := by
  have H := St.refl w0
  refine c_enter (args := [.agg (kC seed).toArray, .slice a ns.length cap, .int .u64 q]) (l := [.agg (kC seed).toArray, .slice a ns.length cap, .int .u64 q, undef, undef, undef, undef, undef, undef, undef, undef, undef, undef, undef, undef, undef, undef, undef, undef, undef, undef, undef, undef, undef, undef, undef, undef, undef, undef, undef, undef, undef, undef, undef, undef, undef, undef, undef, undef, undef, undef, undef, undef, undef, undef, undef, undef, undef, undef, undef, undef, undef, undef, undef, undef, undef, undef, undef, undef, undef, undef, undef, undef, undef, undef, undef, undef, undef, undef, undef, undef, undef, undef, undef, undef, undef, undef, undef, undef, undef, undef, undef, undef, undef, undef, undef, undef, undef, undef, undef, undef, undef, undef, undef, undef, undef, undef, undef, undef, undef, undef, undef, undef, undef, undef, undef, undef, undef, undef, undef, undef, undef, undef, undef, undef, undef, undef, undef, undef, undef, undef, undef, undef, undef, undef, undef, undef, undef, undef, undef, undef, undef, undef]) Tryd.func10 Tryd.ntmps10 rfl rfl ?_
  refine c_rseq (n := 133) ⟨rfl, rfl⟩ ?_
  refine s_new (m_box (cs := (kC seed)) H rfl rfl) ?_
  intro w b3 H
  refine s_val (r_assign rfl) ?_
  refine c_nil (l' := [_, _, _, _, _, _, _, _, _, _, _, _, _, _, _, _, _, _, _, _, _, _, _, _, _, _, _, _, _, _, _, _, _, _, _, _, _, _, _, _, _, _, _, _, _, _, _, _, _, _, _, _, _, _, _, _, _, _, _, _, _, _, _, _, _, _, _, _, _, _, _, _, _, _, _, _, _, _, _, _, _, _, _, _, _, _, _, _, _, _, _, _, _, _, _, _, _, _, _, _, _, _, _, _, _, _, _, _, _, _, _, _, _, _, _, _, _, _, _, _, _, _, _, _, _, _, _, _, _, _, _, _, _]) rfl ?_
  refine c_seq ?_
  refine c_rseq (n := 133) ⟨rfl, rfl⟩ ?_
  refine s_call (r_call Tryd.call11 en) (awake_spec _ (hT.st H)) ?_
  rintro v w ⟨rfl, HC⟩
  replace H := H.quiet HC
  refine s_val (r_not rfl) ?_
  refine c_nil (l' := [_, _, _, _, _, _, _, _, _, _, _, _, _, _, _, _, _, _, _, _, _, _, _, _, _, _, _, _, _, _, _, _, _, _, _, _, _, _, _, _, _, _, _, _, _, _, _, _, _, _, _, _, _, _, _, _, _, _, _, _, _, _, _, _, _, _, _, _, _, _, _, _, _, _, _, _, _, _, _, _, _, _, _, _, _, _, _, _, _, _, _, _, _, _, _, _, _, _, _, _, _, _, _, _, _, _, _, _, _, _, _, _, _, _, _, _, _, _, _, _, _, _, _, _, _, _, _, _, _, _, _, _, _]) rfl ?_
  refine c_iff rfl ?_
  refine wp_skip ?_
  refine x_thenNormal ?_
  refine c_seq ?_
  refine c_rseq (n := 133) ⟨rfl, rfl⟩ ?_
  refine s_val (r_move rfl) ?_
  refine s_val (r_lens Tryd.runUnderlying44 (ec rfl en)) ?_
  refine s_val (r_gtr rfl rfl) ?_
  refine c_nil (l' := [_, _, _, _, _, _, _, _, _, _, _, _, _, _, _, _, _, _, _, _, _, _, _, _, _, _, _, _, _, _, _, _, _, _, _, _, _, _, _, _, _, _, _, _, _, _, _, _, _, _, _, _, _, _, _, _, _, _, _, _, _, _, _, _, _, _, _, _, _, _, _, _, _, _, _, _, _, _, _, _, _, _, _, _, _, _, _, _, _, _, _, _, _, _, _, _, _, _, _, _, _, _, _, _, _, _, _, _, _, _, _, _, _, _, _, _, _, _, _, _, _, _, _, _, _, _, _, _, _, _, _, _, _]) rfl ?_
  refine c_if rfl (fun h27 => ?_) (fun h27 => ?_)
  · skip
    skip
    refine c_rseq (n := 133) ⟨rfl, rfl⟩ ?_
    refine s_val (r_assign rfl) ?_
    refine c_nil (l' := [_, _, _, _, _, _, _, _, _, _, _, _, _, _, _, _, _, _, _, _, _, _, _, _, _, _, _, _, _, _, _, _, _, _, _, _, _, _, _, _, _, _, _, _, _, _, _, _, _, _, _, _, _, _, _, _, _, _, _, _, _, _, _, _, _, _, _, _, _, _, _, _, _, _, _, _, _, _, _, _, _, _, _, _, _, _, _, _, _, _, _, _, _, _, _, _, _, _, _, _, _, _, _, _, _, _, _, _, _, _, _, _, _, _, _, _, _, _, _, _, _, _, _, _, _, _, _, _, _, _, _, _, _]) rfl ?_
    refine wp_ret (x_thenRet ?_)
    refine e_ret (res1 rfl rfl) ⟨_, rfl, ?_⟩
    exact ⟨rfl, H.sub (List.nil_sublist _)⟩
  · skip
    skip
    refine wp_skip ?_
    refine x_thenNormal ?_
    refine c_rseq (n := 133) ⟨rfl, rfl⟩ ?_
    refine s_val (r_buildS Tryd.runUnderlying50 Tryd.zeroValue50 places50 pn rfl) ?_
    refine s_val (r_makeIface Tryd.runUnderlying50 (fun _ h => nomatch h) rfl) ?_
    refine s_val (r_loadn Tryd.isAgg43 Tryd.sizeOf43 rfl (H.at 0 rfl) (by first | exact (kC_td _) | exact (hC_td _) | exact (hC_seed _)) (by first | exact (kC_length _) | exact (hC_length _) | exact rfl)) ?_
    refine s_call (r_call Tryd.call18 (ec rfl (ec rfl en))) (new_spec _ _ litL litR (splits_lit _) _) ?_
    rintro v w ⟨bt, N, rfl, hT0, HC⟩
    obtain ⟨ci, hci, hTr⟩ : ∃ ci, SplitsBy Tryd.prog ci litL litR ∧ TreeN 77 55 bt ci [root seed] N := ⟨_, splits_lit _, hT0⟩
    replace H : St w0 [] _ (_ :: N) := (H.call0 HC).perm (List.perm_append_comm (l₁ := [_]))
    refine s_val (r_assign rfl) ?_
    refine c_nil (l' := [_, _, _, _, _, _, _, _, _, _, _, _, _, _, _, _, _, _, _, _, _, _, _, _, _, _, _, _, _, _, _, _, _, _, _, _, _, _, _, _, _, _, _, _, _, _, _, _, _, _, _, _, _, _, _, _, _, _, _, _, _, _, _, _, _, _, _, _, _, _, _, _, _, _, _, _, _, _, _, _, _, _, _, _, _, _, _, _, _, _, _, _, _, _, _, _, _, _, _, _, _, _, _, _, _, _, _, _, _, _, _, _, _, _, _, _, _, _, _, _, _, _, _, _, _, _, _, _, _, _, _, _, _]) rfl ?_
    refine c_seq ?_
    refine c_rseq (n := 133) ⟨rfl, rfl⟩ ?_
    refine s_val (r_move rfl) ?_
    refine s_val (r_lens Tryd.runUnderlying44 (ec rfl en)) ?_
    refine s_val (r_move rfl) ?_
    refine c_nil (l' := [_, _, _, _, _, _, _, _, _, _, _, _, _, _, _, _, _, _, _, _, _, _, _, _, _, _, _, _, _, _, _, _, _, _, _, _, _, _, _, _, _, _, _, _, _, _, _, _, _, _, _, _, _, _, _, _, _, _, _, _, _, _, _, _, _, _, _, _, _, _, _, _, _, _, _, _, _, _, _, _, _, _, _, _, _, _, _, _, _, _, _, _, _, _, _, _, _, _, _, _, _, _, _, _, _, _, _, _, _, _, _, _, _, _, _, _, _, _, _, _, _, _, _, _, _, _, _, _, _, _, _, _, _]) rfl ?_
    refine wp_block ?_
    refine c_loop (fun (l0 : List Value) (i : Nat) (l : List Value) (w : World) => ∃ (u9 u35 u36 u37 u38 u39 u40 u41 u42 : Value) (N : List (Nat × Obj)) (la : List Int) (xs : List Held), l = ovr l0 [N_, N_, N_, N_, N_, N_, N_, N_, N_, Y_ u9, N_, N_, N_, N_, N_, N_, N_, N_, N_, N_, N_, N_, N_, N_, N_, N_, N_, N_, N_, N_, N_, N_, N_, N_, Y_ (.int .i64 i), Y_ u35, Y_ u36, Y_ u37, Y_ u38, Y_ u39, Y_ u40, Y_ u41, Y_ u42] ∧ i ≤ ns.length ∧ xs = tree0 litL litR seed la ∧ TreeN 77 55 bt ci xs N ∧ xs.length ≤ 1 + 17 * i ∧ St w0 [] w ((b3, .cells (kC seed).toArray 43 (0, 0)) :: N)) (fun (i : Nat) => ns.length - i) 0 ⟨_, _, _, _, _, _, _, _, _, N, [], [root seed], rfl, by omega, tree0_nil.symm, hTr, by show 1 ≤ _; omega, H⟩ ?_
    intro i l w ⟨u9, u35, u36, u37, u38, u39, u40, u41, u42, N, la, xs, hl, hi, hxs, hTr, hlx, H⟩
    obtain rfl := hl.trans (rfl : _ = [_, _, _, _, _, _, _, _, _, _, _, _, _, _, _, _, _, _, _, _, _, _, _, _, _, _, _, _, _, _, _, _, _, _, _, _, _, _, _, _, _, _, _, _, _, _, _, _, _, _, _, _, _, _, _, _, _, _, _, _, _, _, _, _, _, _, _, _, _, _, _, _, _, _, _, _, _, _, _, _, _, _, _, _, _, _, _, _, _, _, _, _, _, _, _, _, _, _, _, _, _, _, _, _, _, _, _, _, _, _, _, _, _, _, _, _, _, _, _, _, _, _, _, _, _, _, _, _, _, _, _, _, _])
    clear hl
    have hvx : Valid xs := by rw [hxs]; exact tree0_valid la
    refine c_rseq (n := 133) ⟨rfl, rfl⟩ ?_
    refine s_val (r_lss rfl rfl) ?_
    refine c_nil (l' := [_, _, _, _, _, _, _, _, _, _, _, _, _, _, _, _, _, _, _, _, _, _, _, _, _, _, _, _, _, _, _, _, _, _, _, _, _, _, _, _, _, _, _, _, _, _, _, _, _, _, _, _, _, _, _, _, _, _, _, _, _, _, _, _, _, _, _, _, _, _, _, _, _, _, _, _, _, _, _, _, _, _, _, _, _, _, _, _, _, _, _, _, _, _, _, _, _, _, _, _, _, _, _, _, _, _, _, _, _, _, _, _, _, _, _, _, _, _, _, _, _, _, _, _, _, _, _, _, _, _, _, _, _]) rfl ?_
    refine c_seq ?_
    refine c_if rfl (fun h35 => ?_) (fun h35 => ?_)
    · skip
      obtain ⟨bu, off, pre, post, T, fz, rfl, hbu, hpu⟩ := hr (by omega)
      obtain ⟨hn0, hn1⟩ := hu.get (i := i) (by omega)
      have hlp := len_tree (sl := litL) (sr := litR) (n := (ns.getD i 0 % 131072)) hvx
      refine wp_skip ?_
      refine x_thenNormal ?_
      refine c_seq ?_
      refine wp_block ?_
      refine c_rseq (n := 133) ⟨rfl, rfl⟩ ?_
      refine s_val (r_indexAddrS Tryd.runUnderlying44 Tryd.sizeOf38 rfl rfl (by omega) (by omega)) ?_
      refine s_val (r_load1 Tryd.isAgg38 rfl (H.rd0 hbu) (u_get pre ns post i hpu (by omega) (by omega))) ?_
      refine s_val (r_assign rfl) ?_
      refine c_nil (l' := [_, _, _, _, _, _, _, _, _, _, _, _, _, _, _, _, _, _, _, _, _, _, _, _, _, _, _, _, _, _, _, _, _, _, _, _, _, _, _, _, _, _, _, _, _, _, _, _, _, _, _, _, _, _, _, _, _, _, _, _, _, _, _, _, _, _, _, _, _, _, _, _, _, _, _, _, _, _, _, _, _, _, _, _, _, _, _, _, _, _, _, _, _, _, _, _, _, _, _, _, _, _, _, _, _, _, _, _, _, _, _, _, _, _, _, _, _, _, _, _, _, _, _, _, _, _, _, _, _, _, _, _, _]) rfl ?_
      refine c_region (n := 133) ⟨rfl, rfl⟩ ?_
      refine s_val (r_move rfl) ?_
      refine s_val (r_move rfl) ?_
      refine s_val (r_rem rfl rfl (by omega) (Int.tmod_eq_emod_of_nonneg (by omega))) ?_
      refine s_call (r_call Tryd.call19 (ec rfl (ec rfl en))) (punc_t _ _ xs (ns.getD i 0 % 131072) N litL litR hci (by omega) hvx (by omega) (by omega) _ hTr (H.ownsM (.cons _ (List.Sublist.refl _)))) ?_
      rintro v w ⟨rfl, N2, hT2, HC⟩
      replace H : St w0 [] _ (_ :: N2) := St.callr (L := [_]) H HC
      refine c_nil0 (l' := [_, _, _, _, _, _, _, _, _, _, _, _, _, _, _, _, _, _, _, _, _, _, _, _, _, _, _, _, _, _, _, _, _, _, _, _, _, _, _, _, _, _, _, _, _, _, _, _, _, _, _, _, _, _, _, _, _, _, _, _, _, _, _, _, _, _, _, _, _, _, _, _, _, _, _, _, _, _, _, _, _, _, _, _, _, _, _, _, _, _, _, _, _, _, _, _, _, _, _, _, _, _, _, _, _, _, _, _, _, _, _, _, _, _, _, _, _, _, _, _, _, _, _, _, _, _, _, _, _, _, _, _, _]) rfl ?_
      refine x_blockNormal ?_
      refine x_thenNormal ?_
      refine c_region (n := 133) ⟨rfl, rfl⟩ ?_
      refine s_val (r_add rfl rfl (w_i64 (by omega) (by omega))) ?_
      refine s_val (r_move rfl) ?_
      refine c_nil0 (l' := [_, _, _, _, _, _, _, _, _, _, _, _, _, _, _, _, _, _, _, _, _, _, _, _, _, _, _, _, _, _, _, _, _, _, _, _, _, _, _, _, _, _, _, _, _, _, _, _, _, _, _, _, _, _, _, _, _, _, _, _, _, _, _, _, _, _, _, _, _, _, _, _, _, _, _, _, _, _, _, _, _, _, _, _, _, _, _, _, _, _, _, _, _, _, _, _, _, _, _, _, _, _, _, _, _, _, _, _, _, _, _, _, _, _, _, _, _, _, _, _, _, _, _, _, _, _, _, _, _, _, _, _, _]) rfl ?_
      exact ⟨i + 1, _, rfl, ⟨_, _, _, _, _, _, _, _, _, N2, _, (punc litL litR xs (ns.getD i 0 % 131072)), rfl, by omega, by rw [hxs, tree0_punc], hT2, by omega, H⟩, by omega⟩
    · skip
      obtain rfl : i = ns.length := by omega
      refine wp_exit (x_thenExit (x_thenExit (x_blockHit ?_)))
      refine x_thenNormal ?_
      refine c_rseq (n := 133) ⟨rfl, rfl⟩ ?_
      refine s_val (r_move rfl) ?_
      refine s_call (r_call Tryd.call20 (ec rfl en)) (held_spec _ _ xs N (by omega) hvx _ hTr (H.ownsM (.cons _ (List.Sublist.refl _)))) ?_
      rintro v w ⟨ah, caph, Nh, rfl, hNh, HC⟩
      replace H := H.call0 HC
      refine s_call (r_call Tryd.call12 (ec rfl en)) (enc_ok _ _ xs (by omega) hvx.inR _ (hNh.hrowM H (fun p hp => List.mem_append_left _ hp)) (hT.st H) hvx) ?_
      rintro v w ⟨ab, capb, Nb, rfl, hNb, HC⟩
      replace H : St w0 [] _ (Nb ++ N) := (H.call0 HC).sub (List.Sublist.append (List.Sublist.refl Nb) ((List.Sublist.cons _ (List.Sublist.refl N)).trans (List.sublist_append_right Nh _)))
      have hel := encB_length xs
      have hcb := hNb.2.1
      refine s_val (r_move rfl) ?_
      refine s_val (r_extract rfl rfl) ?_
      refine s_val (r_extract rfl rfl) ?_
      refine s_val (r_assign rfl) ?_
      refine s_val (r_assign rfl) ?_
      refine c_nil (l' := [_, _, _, _, _, _, _, _, _, _, _, _, _, _, _, _, _, _, _, _, _, _, _, _, _, _, _, _, _, _, _, _, _, _, _, _, _, _, _, _, _, _, _, _, _, _, _, _, _, _, _, _, _, _, _, _, _, _, _, _, _, _, _, _, _, _, _, _, _, _, _, _, _, _, _, _, _, _, _, _, _, _, _, _, _, _, _, _, _, _, _, _, _, _, _, _, _, _, _, _, _, _, _, _, _, _, _, _, _, _, _, _, _, _, _, _, _, _, _, _, _, _, _, _, _, _, _, _, _, _, _, _, _]) rfl ?_
      refine c_rseq (n := 133) ⟨rfl, rfl⟩ ?_
      refine s_val (r_move rfl) ?_
      refine s_call (r_call Tryd.call16 (ec rfl en)) (dec_ok _ _ xs (by omega) hcb _ (hNb.browM H (fun p hp => List.mem_append_left _ hp)) (hT.st (H.sub (List.nil_sublist _))) hvx) ?_
      rintro v w ⟨al, capl, Nl, rfl, hNl, HC⟩
      replace H : St w0 [] _ (Nl ++ N) := (H.call0 HC).sub (List.Sublist.append (List.Sublist.refl Nl) (List.sublist_append_right Nb N))
      refine s_val (r_move rfl) ?_
      refine s_val (r_extract rfl rfl) ?_
      refine s_val (r_extract rfl rfl) ?_
      refine s_val (r_assign rfl) ?_
      refine s_val (r_assign rfl) ?_
      refine c_nil (l' := [_, _, _, _, _, _, _, _, _, _, _, _, _, _, _, _, _, _, _, _, _, _, _, _, _, _, _, _, _, _, _, _, _, _, _, _, _, _, _, _, _, _, _, _, _, _, _, _, _, _, _, _, _, _, _, _, _, _, _, _, _, _, _, _, _, _, _, _, _, _, _, _, _, _, _, _, _, _, _, _, _, _, _, _, _, _, _, _, _, _, _, _, _, _, _, _, _, _, _, _, _, _, _, _, _, _, _, _, _, _, _, _, _, _, _, _, _, _, _, _, _, _, _, _, _, _, _, _, _, _, _, _, _]) rfl ?_
      refine c_rseq (n := 133) ⟨rfl, rfl⟩ ?_
      refine s_val (r_buildS Tryd.runUnderlying50 Tryd.zeroValue50 places50 pn rfl) ?_
      refine s_val (r_makeIface Tryd.runUnderlying50 (fun _ h => nomatch h) rfl) ?_
      refine s_val (r_move rfl) ?_
      refine s_call (r_call Tryd.call22 (ec rfl (ec rfl en))) (from_spec _ _ _ xs litL litR (splits_lit _) (by omega) hvx.inR _ (hNl.hrowM H (fun p hp => List.mem_append_left _ hp))) ?_
      rintro v w (⟨_, bu, Nu, rfl, hTu0, HC⟩ | ⟨hn, _⟩)
      · skip
        obtain ⟨cj, hcj, hTu⟩ : ∃ cj, SplitsBy Tryd.prog cj litL litR ∧ TreeN 77 55 bu cj xs Nu := ⟨_, splits_lit _, hTu0⟩
        replace H : St w0 [] _ (Nu ++ (Nl ++ N)) := H.call0 HC
        refine s_val (r_move rfl) ?_
        refine s_val (r_extract rfl rfl) ?_
        refine s_val (r_extract rfl rfl) ?_
        refine s_val (r_assign rfl) ?_
        refine s_val (r_assign rfl) ?_
        refine c_nil (l' := [_, _, _, _, _, _, _, _, _, _, _, _, _, _, _, _, _, _, _, _, _, _, _, _, _, _, _, _, _, _, _, _, _, _, _, _, _, _, _, _, _, _, _, _, _, _, _, _, _, _, _, _, _, _, _, _, _, _, _, _, _, _, _, _, _, _, _, _, _, _, _, _, _, _, _, _, _, _, _, _, _, _, _, _, _, _, _, _, _, _, _, _, _, _, _, _, _, _, _, _, _, _, _, _, _, _, _, _, _, _, _, _, _, _, _, _, _, _, _, _, _, _, _, _, _, _, _, _, _, _, _, _, _]) rfl ?_
        refine c_seq ?_
        refine c_rseq (n := 133) ⟨rfl, rfl⟩ ?_
        refine s_val (r_move rfl) ?_
        refine s_val (r_neq rfl rfl) ?_
        refine s_val (r_move rfl) ?_
        refine g_yes rfl rfl ?_
        refine s_val (r_move rfl) ?_
        refine g_yes rfl rfl ?_
        refine s_val (r_neq rfl rfl) ?_
        refine s_val (r_pickf rfl rfl) ?_
        refine s_val (r_move rfl) ?_
        refine g_yes rfl rfl ?_
        refine s_val (r_move rfl) ?_
        refine g_yes rfl rfl ?_
        refine s_val (r_neq rfl rfl) ?_
        refine s_val (r_pickf rfl rfl) ?_
        refine s_val (r_move rfl) ?_
        refine g_yes rfl rfl ?_
        refine s_val (r_move rfl) ?_
        refine g_yes rfl rfl ?_
        refine s_val (r_move rfl) ?_
        refine g_yes rfl rfl ?_
        refine s_call (r_call Tryd.call20 (ec rfl en)) (held_spec _ _ xs N (by omega) hvx _ hTr (H.ownsM ((List.sublist_append_right Nl N).trans (List.sublist_append_right Nu _)))) ?_
        rintro v w ⟨a9, cap9, N9, rfl, hN9, HC⟩
        replace H := H.call0 HC
        refine g_yes rfl rfl ?_
        refine s_call (r_call Tryd.call15 (ec rfl (ec rfl en))) (same_spec _ _ _ _ xs xs (by omega) _ (hNl.hrowM H (fun p hp => by simp [hp])) (hN9.hrowM H (fun p hp => by simp [hp]))) ?_
        rintro v w ⟨hv75, HC⟩
        rw [decide_eq_true rfl] at hv75
        subst hv75
        replace H : St w0 [] _ (Nu ++ N) := (H.quiet HC).sub ((List.Sublist.append (List.Sublist.refl Nu) (List.sublist_append_right Nl N)).trans (List.sublist_append_right N9 _))
        refine g_yes rfl rfl ?_
        refine s_val (r_not rfl) ?_
        refine s_val (r_pickf rfl rfl) ?_
        refine s_val (r_move rfl) ?_
        refine g_yes rfl rfl ?_
        refine s_val (r_move rfl) ?_
        refine g_yes rfl rfl ?_
        refine s_val (r_lens Tryd.runUnderlying24 (ec rfl en)) ?_
        refine g_yes rfl rfl ?_
        refine s_val (r_move rfl) ?_
        refine g_yes rfl rfl ?_
        refine s_val (r_lens Tryd.runUnderlying22 (ec rfl en)) ?_
        refine g_yes rfl rfl ?_
        refine s_val (r_mul rfl rfl (w_i64 (by omega) (by omega))) ?_
        refine g_yes rfl rfl ?_
        refine s_val (r_add rfl rfl (w_i64 (by omega) (by omega))) ?_
        refine g_yes rfl rfl ?_
        refine s_val (r_neq rfl rfl) ?_
        refine s_val (r_pickf rfl rfl) ?_
        refine c_nil (l' := [_, _, _, _, _, _, _, _, _, _, _, _, _, _, _, _, _, _, _, _, _, _, _, _, _, _, _, _, _, _, _, _, _, _, _, _, _, _, _, _, _, _, _, _, _, _, _, _, _, _, _, _, _, _, _, _, _, _, _, _, _, _, _, _, _, _, _, _, _, _, _, _, _, _, _, _, _, _, _, _, _, _, _, _, _, _, _, _, _, _, _, _, _, _, _, _, _, _, _, _, _, _, _, _, _, _, _, _, _, _, _, _, _, _, _, _, _, _, _, _, _, _, _, _, _, _, _, _, _, _, _, _, _]) rfl ?_
        refine c_if rfl (fun h86 => ?_) (fun h86 => ?_)
        · skip
          exfalso; omega
        · skip
          refine wp_skip ?_
          refine x_thenNormal ?_
          refine c_seq ?_
          refine c_rseq (n := 133) ⟨rfl, rfl⟩ ?_
          refine s_val (r_move rfl) ?_
          refine s_val (r_rem rfl rfl (by omega) (Int.tmod_eq_emod_of_nonneg (by omega))) ?_
          refine s_new (m_bslice1 (vs := uC [q % 131072]) H Tryd.runUnderlying44 Tryd.sizeOf38 Tryd.zeroValue38 (by omega) (by omega) rfl rfl rfl) ?_
          intro w b89 H
          refine s_val (r_move rfl) ?_
          refine s_any (m_append_own2 (xs := uC [q % 131072]) (sp := []) H 0 Tryd.runUnderlying44 Tryd.runUnderlying44 (fun _ h => nomatch h) Tryd.sizeOf38 Tryd.zeroValue38 rfl Tryd.typeInfo38 rfl rfl (Nat.le_refl _) (by rw [bytes38]; omega) (by rw [bytes38]; omega) (ec rfl (ec rfl en)) ((hr.st (H.sub (List.nil_sublist _))).src _)) ?_
          rintro v w ⟨bq, capq, spq, rfl, hcq, hnq, H⟩
          obtain ⟨qs, hqs⟩ : ∃ qs, qs = (q % 131072) :: ns := ⟨_, rfl⟩
          have hql : qs.length = 1 + ns.length := by rw [hqs, List.length_cons]; omega
          have hqu : U64 qs := by rw [hqs]; exact hu.cons (by omega) (by omega)
          replace H : St w0 [] w ((bq, .cells (uC qs ++ spq).toArray 38 (0, 0)) :: (Nu ++ N)) := by rw [hqs]; exact H
          refine s_val (r_lens Tryd.runUnderlying44 (ec rfl en)) ?_
          refine s_val (r_move rfl) ?_
          refine c_nil (l' := [_, _, _, _, _, _, _, _, _, _, _, _, _, _, _, _, _, _, _, _, _, _, _, _, _, _, _, _, _, _, _, _, _, _, _, _, _, _, _, _, _, _, _, _, _, _, _, _, _, _, _, _, _, _, _, _, _, _, _, _, _, _, _, _, _, _, _, _, _, _, _, _, _, _, _, _, _, _, _, _, _, _, _, _, _, _, _, _, _, _, _, _, _, _, _, _, _, _, _, _, _, _, _, _, _, _, _, _, _, _, _, _, _, _, _, _, _, _, _, _, _, _, _, _, _, _, _, _, _, _, _, _, _]) rfl ?_
          refine wp_block ?_
          refine c_loop (fun (l0 : List Value) (i : Nat) (l : List Value) (w : World) => ∃ (u6 u17 u18 u19 u20 u21 u22 u94 u95 u96 u97 u98 u99 u100 u101 u102 u103 u104 u105 u106 u107 u108 u109 u110 u111 u112 u113 u114 u115 u116 u117 u118 u119 u120 u121 u122 u123 u124 u125 u126 u127 : Value) , l = ovr l0 [N_, N_, N_, N_, N_, N_, Y_ u6, N_, N_, N_, N_, N_, N_, N_, N_, N_, N_, Y_ u17, Y_ u18, Y_ u19, Y_ u20, Y_ u21, Y_ u22, N_, N_, N_, N_, N_, N_, N_, N_, N_, N_, N_, N_, N_, N_, N_, N_, N_, N_, N_, N_, N_, N_, N_, N_, N_, N_, N_, N_, N_, N_, N_, N_, N_, N_, N_, N_, N_, N_, N_, N_, N_, N_, N_, N_, N_, N_, N_, N_, N_, N_, N_, N_, N_, N_, N_, N_, N_, N_, N_, N_, N_, N_, N_, N_, N_, N_, N_, N_, N_, N_, Y_ (.int .i64 i), Y_ u94, Y_ u95, Y_ u96, Y_ u97, Y_ u98, Y_ u99, Y_ u100, Y_ u101, Y_ u102, Y_ u103, Y_ u104, Y_ u105, Y_ u106, Y_ u107, Y_ u108, Y_ u109, Y_ u110, Y_ u111, Y_ u112, Y_ u113, Y_ u114, Y_ u115, Y_ u116, Y_ u117, Y_ u118, Y_ u119, Y_ u120, Y_ u121, Y_ u122, Y_ u123, Y_ u124, Y_ u125, Y_ u126, Y_ u127] ∧ i ≤ qs.length ∧ St w0 [] w ((bq, .cells (uC qs ++ spq).toArray 38 (0, 0)) :: Nu ++ N)) (fun (i : Nat) => qs.length - i) 0 ⟨_, _, _, _, _, _, _, _, _, _, _, _, _, _, _, _, _, _, _, _, _, _, _, _, _, _, _, _, _, _, _, _, _, _, _, _, _, _, _, _, _, rfl, by omega, H⟩ ?_
          intro i l w ⟨u6, u17, u18, u19, u20, u21, u22, u94, u95, u96, u97, u98, u99, u100, u101, u102, u103, u104, u105, u106, u107, u108, u109, u110, u111, u112, u113, u114, u115, u116, u117, u118, u119, u120, u121, u122, u123, u124, u125, u126, u127, hl, hi, H⟩
          obtain rfl := hl.trans (rfl : _ = [_, _, _, _, _, _, _, _, _, _, _, _, _, _, _, _, _, _, _, _, _, _, _, _, _, _, _, _, _, _, _, _, _, _, _, _, _, _, _, _, _, _, _, _, _, _, _, _, _, _, _, _, _, _, _, _, _, _, _, _, _, _, _, _, _, _, _, _, _, _, _, _, _, _, _, _, _, _, _, _, _, _, _, _, _, _, _, _, _, _, _, _, _, _, _, _, _, _, _, _, _, _, _, _, _, _, _, _, _, _, _, _, _, _, _, _, _, _, _, _, _, _, _, _, _, _, _, _, _, _, _, _, _])
          clear hl
          refine c_rseq (n := 133) ⟨rfl, rfl⟩ ?_
          refine s_val (r_lss rfl rfl) ?_
          refine c_nil (l' := [_, _, _, _, _, _, _, _, _, _, _, _, _, _, _, _, _, _, _, _, _, _, _, _, _, _, _, _, _, _, _, _, _, _, _, _, _, _, _, _, _, _, _, _, _, _, _, _, _, _, _, _, _, _, _, _, _, _, _, _, _, _, _, _, _, _, _, _, _, _, _, _, _, _, _, _, _, _, _, _, _, _, _, _, _, _, _, _, _, _, _, _, _, _, _, _, _, _, _, _, _, _, _, _, _, _, _, _, _, _, _, _, _, _, _, _, _, _, _, _, _, _, _, _, _, _, _, _, _, _, _, _, _]) rfl ?_
          refine c_seq ?_
          refine c_if rfl (fun h94 => ?_) (fun h94 => ?_)
          · skip
            obtain ⟨hx0, hx1⟩ := hqu.get (i := i) (by omega)
            refine wp_skip ?_
            refine x_thenNormal ?_
            refine c_seq ?_
            refine wp_block ?_
            refine c_rseq (n := 133) ⟨rfl, rfl⟩ ?_
            refine s_val (r_indexAddrS Tryd.runUnderlying44 Tryd.sizeOf38 rfl rfl (by omega) (by omega)) ?_
            refine s_val (r_load1 Tryd.isAgg38 rfl (H.at 0 rfl) (u_get (off := 0) [] qs spq i rfl (by omega) (by omega))) ?_
            refine s_val (r_assign rfl) ?_
            refine c_nil (l' := [_, _, _, _, _, _, _, _, _, _, _, _, _, _, _, _, _, _, _, _, _, _, _, _, _, _, _, _, _, _, _, _, _, _, _, _, _, _, _, _, _, _, _, _, _, _, _, _, _, _, _, _, _, _, _, _, _, _, _, _, _, _, _, _, _, _, _, _, _, _, _, _, _, _, _, _, _, _, _, _, _, _, _, _, _, _, _, _, _, _, _, _, _, _, _, _, _, _, _, _, _, _, _, _, _, _, _, _, _, _, _, _, _, _, _, _, _, _, _, _, _, _, _, _, _, _, _, _, _, _, _, _, _]) rfl ?_
            refine c_rseq (n := 133) ⟨rfl, rfl⟩ ?_
            refine s_val (r_move rfl) ?_
            refine c_nil (l' := [_, _, _, _, _, _, _, _, _, _, _, _, _, _, _, _, _, _, _, _, _, _, _, _, _, _, _, _, _, _, _, _, _, _, _, _, _, _, _, _, _, _, _, _, _, _, _, _, _, _, _, _, _, _, _, _, _, _, _, _, _, _, _, _, _, _, _, _, _, _, _, _, _, _, _, _, _, _, _, _, _, _, _, _, _, _, _, _, _, _, _, _, _, _, _, _, _, _, _, _, _, _, _, _, _, _, _, _, _, _, _, _, _, _, _, _, _, _, _, _, _, _, _, _, _, _, _, _, _, _, _, _, _]) rfl ?_
            refine wp_block ?_
            refine c_loop (fun (l0 : List Value) (j : Nat) (l : List Value) (w : World) => ∃ (u6 u18 u19 u20 u21 u22 u98 u99 u100 u101 u102 u103 u104 u105 u106 u107 u108 u109 u110 u111 u112 u113 u114 u115 u116 u117 u118 u119 u120 u121 u122 u123 u124 u125 u126 : Value) , l = ovr l0 [N_, N_, N_, N_, N_, N_, Y_ u6, N_, N_, N_, N_, N_, N_, N_, N_, N_, N_, N_, Y_ u18, Y_ u19, Y_ u20, Y_ u21, Y_ u22, N_, N_, N_, N_, N_, N_, N_, N_, N_, N_, N_, N_, N_, N_, N_, N_, N_, N_, N_, N_, N_, N_, N_, N_, N_, N_, N_, N_, N_, N_, N_, N_, N_, N_, N_, N_, N_, N_, N_, N_, N_, N_, N_, N_, N_, N_, N_, N_, N_, N_, N_, N_, N_, N_, N_, N_, N_, N_, N_, N_, N_, N_, N_, N_, N_, N_, N_, N_, N_, N_, N_, N_, N_, N_, Y_ (.int .u64 j), Y_ u98, Y_ u99, Y_ u100, Y_ u101, Y_ u102, Y_ u103, Y_ u104, Y_ u105, Y_ u106, Y_ u107, Y_ u108, Y_ u109, Y_ u110, Y_ u111, Y_ u112, Y_ u113, Y_ u114, Y_ u115, Y_ u116, Y_ u117, Y_ u118, Y_ u119, Y_ u120, Y_ u121, Y_ u122, Y_ u123, Y_ u124, Y_ u125, Y_ u126] ∧ j ≤ 3 ∧ St w0 [] w ((bq, .cells (uC qs ++ spq).toArray 38 (0, 0)) :: Nu ++ N)) (fun (j : Nat) => 3 - j) 0 ⟨_, _, _, _, _, _, _, _, _, _, _, _, _, _, _, _, _, _, _, _, _, _, _, _, _, _, _, _, _, _, _, _, _, _, _, rfl, by omega, H⟩ ?_
            intro j l w ⟨u6, u18, u19, u20, u21, u22, u98, u99, u100, u101, u102, u103, u104, u105, u106, u107, u108, u109, u110, u111, u112, u113, u114, u115, u116, u117, u118, u119, u120, u121, u122, u123, u124, u125, u126, hl, hj, H⟩
            obtain rfl := hl.trans (rfl : _ = [_, _, _, _, _, _, _, _, _, _, _, _, _, _, _, _, _, _, _, _, _, _, _, _, _, _, _, _, _, _, _, _, _, _, _, _, _, _, _, _, _, _, _, _, _, _, _, _, _, _, _, _, _, _, _, _, _, _, _, _, _, _, _, _, _, _, _, _, _, _, _, _, _, _, _, _, _, _, _, _, _, _, _, _, _, _, _, _, _, _, _, _, _, _, _, _, _, _, _, _, _, _, _, _, _, _, _, _, _, _, _, _, _, _, _, _, _, _, _, _, _, _, _, _, _, _, _, _, _, _, _, _, _])
            clear hl
            refine c_rseq (n := 133) ⟨rfl, rfl⟩ ?_
            refine s_val (r_lss rfl rfl) ?_
            refine c_nil (l' := [_, _, _, _, _, _, _, _, _, _, _, _, _, _, _, _, _, _, _, _, _, _, _, _, _, _, _, _, _, _, _, _, _, _, _, _, _, _, _, _, _, _, _, _, _, _, _, _, _, _, _, _, _, _, _, _, _, _, _, _, _, _, _, _, _, _, _, _, _, _, _, _, _, _, _, _, _, _, _, _, _, _, _, _, _, _, _, _, _, _, _, _, _, _, _, _, _, _, _, _, _, _, _, _, _, _, _, _, _, _, _, _, _, _, _, _, _, _, _, _, _, _, _, _, _, _, _, _, _, _, _, _, _]) rfl ?_
            refine c_seq ?_
            refine c_if rfl (fun h98 => ?_) (fun h98 => ?_)
            · skip
              refine wp_skip ?_
              refine x_thenNormal ?_
              refine c_seq ?_
              refine wp_block ?_
              refine c_rseq (n := 133) ⟨rfl, rfl⟩ ?_
              refine s_val (r_move rfl) ?_
              refine s_val (r_assign rfl) ?_
              refine c_nil (l' := [_, _, _, _, _, _, _, _, _, _, _, _, _, _, _, _, _, _, _, _, _, _, _, _, _, _, _, _, _, _, _, _, _, _, _, _, _, _, _, _, _, _, _, _, _, _, _, _, _, _, _, _, _, _, _, _, _, _, _, _, _, _, _, _, _, _, _, _, _, _, _, _, _, _, _, _, _, _, _, _, _, _, _, _, _, _, _, _, _, _, _, _, _, _, _, _, _, _, _, _, _, _, _, _, _, _, _, _, _, _, _, _, _, _, _, _, _, _, _, _, _, _, _, _, _, _, _, _, _, _, _, _, _]) rfl ?_
              refine c_rseq (n := 133) ⟨rfl, rfl⟩ ?_
              refine s_val (r_move rfl) ?_
              refine s_val (r_move rfl) ?_
              refine s_val (r_move rfl) ?_
              have hm0 := Int.emod_nonneg ((qs.getD i 0 + (j : Int)) % 18446744073709551616) (by omega : (131072 : Int) ≠ 0)
              have hm1 := Int.emod_lt_of_pos ((qs.getD i 0 + (j : Int)) % 18446744073709551616) (by omega : (0 : Int) < 131072)
              obtain ⟨m, hm⟩ : ∃ m, m = (qs.getD i 0 + (j : Int)) % 18446744073709551616 % 131072 := ⟨_, rfl⟩
              rw [← hm] at hm0 hm1
              refine s_val (r_add rfl rfl (w_u64' _)) ?_
              refine s_val (r_rem rfl rfl (by omega) ((Int.tmod_eq_emod_of_nonneg (by omega)).trans hm.symm)) ?_
              refine s_call (r_call Tryd.call23 (ec rfl (ec rfl en))) (key_spec _ _ xs N (by omega) hvx m hm0 litL litR hci _ hTr (H.ownsM (.cons _ (List.sublist_append_right Nu N)))) ?_
              rintro v w ⟨k1, ok1, hK1, rfl, HC⟩
              obtain rfl := keyR_ok hK1
              replace H := H.quiet HC
              refine s_val (r_move rfl) ?_
              refine s_val (r_extract rfl rfl) ?_
              refine s_val (r_extract rfl rfl) ?_
              refine s_new (m_alloc (cs := (kC (By.zero 32))) H Tryd.zeroValue43 rfl) ?_
              intro w b19 H
              refine s_st (m_storen H 0 32 Tryd.sizeOf43 rfl rfl (by first | exact (kC_length _) | exact (hC_length _)) (by first | exact (kC_one _) | exact (hC_one _)) rfl (by first | exact (by rw [kC_length]; omega) | exact (by rw [hC_length]; omega)) (by first | exact (kC_sp _ _) | exact (hC_sp _ _))) (L' := (_ :: _ :: _)) rfl ?_
              intro w H
              refine s_val (r_assign rfl) ?_
              refine c_nil (l' := [_, _, _, _, _, _, _, _, _, _, _, _, _, _, _, _, _, _, _, _, _, _, _, _, _, _, _, _, _, _, _, _, _, _, _, _, _, _, _, _, _, _, _, _, _, _, _, _, _, _, _, _, _, _, _, _, _, _, _, _, _, _, _, _, _, _, _, _, _, _, _, _, _, _, _, _, _, _, _, _, _, _, _, _, _, _, _, _, _, _, _, _, _, _, _, _, _, _, _, _, _, _, _, _, _, _, _, _, _, _, _, _, _, _, _, _, _, _, _, _, _, _, _, _, _, _, _, _, _, _, _, _, _]) rfl ?_
              refine c_rseq (n := 133) ⟨rfl, rfl⟩ ?_
              refine s_val (r_move rfl) ?_
              refine s_val (r_move rfl) ?_
              refine s_val (r_move rfl) ?_
              refine s_val (r_add rfl rfl (w_u64' _)) ?_
              refine s_val (r_rem rfl rfl (by omega) ((Int.tmod_eq_emod_of_nonneg (by omega)).trans hm.symm)) ?_
              refine s_call (r_call Tryd.call23 (ec rfl (ec rfl en))) (key_spec _ _ xs Nu (by omega) hvx m hm0 litL litR hcj _ hTu (H.ownsM (.cons _ (.cons _ (List.sublist_append_left Nu N))))) ?_
              rintro v w ⟨k2, ok2, hK2, rfl, HC⟩
              obtain rfl := keyR_ok hK2
              obtain rfl := keyR_uniq hvx hK1 hK2
              replace H := H.quiet HC
              refine s_val (r_move rfl) ?_
              refine s_val (r_extract rfl rfl) ?_
              refine s_val (r_extract rfl rfl) ?_
              refine s_new (m_alloc (cs := (kC (By.zero 32))) H Tryd.zeroValue43 rfl) ?_
              intro w b21 H
              refine s_st (m_storen H 0 32 Tryd.sizeOf43 rfl rfl (by first | exact (kC_length _) | exact (hC_length _)) (by first | exact (kC_one _) | exact (hC_one _)) rfl (by first | exact (by rw [kC_length]; omega) | exact (by rw [hC_length]; omega)) (by first | exact (kC_sp _ _) | exact (hC_sp _ _))) (L' := (_ :: _ :: _ :: _)) rfl ?_
              intro w H
              refine s_val (r_assign rfl) ?_
              refine c_nil (l' := [_, _, _, _, _, _, _, _, _, _, _, _, _, _, _, _, _, _, _, _, _, _, _, _, _, _, _, _, _, _, _, _, _, _, _, _, _, _, _, _, _, _, _, _, _, _, _, _, _, _, _, _, _, _, _, _, _, _, _, _, _, _, _, _, _, _, _, _, _, _, _, _, _, _, _, _, _, _, _, _, _, _, _, _, _, _, _, _, _, _, _, _, _, _, _, _, _, _, _, _, _, _, _, _, _, _, _, _, _, _, _, _, _, _, _, _, _, _, _, _, _, _, _, _, _, _, _, _, _, _, _, _, _]) rfl ?_
              refine c_rseq (n := 133) ⟨rfl, rfl⟩ ?_
              refine s_val (r_loadn Tryd.isAgg43 Tryd.sizeOf43 rfl (H.at 1 rfl) (by first | exact (kC_td _) | exact (hC_td _) | exact (hC_seed _)) (by first | exact (kC_length _) | exact (hC_length _) | exact rfl)) ?_
              refine s_val (r_loadn Tryd.isAgg43 Tryd.sizeOf43 rfl (H.at 0 rfl) (by first | exact (kC_td _) | exact (hC_td _) | exact (hC_seed _)) (by first | exact (kC_length _) | exact (hC_length _) | exact rfl)) ?_
              refine s_test (r_neqK keyT43 rfl rfl) (fun h120 => ?_) (fun h120 => ?_)
              · skip
                exact absurd rfl h120
              · skip
                refine s_val (r_move rfl) ?_
                refine g_yes rfl rfl ?_
                refine s_val (r_move rfl) ?_
                refine g_yes rfl rfl ?_
                refine s_val (r_move rfl) ?_
                refine g_yes rfl rfl ?_
                refine s_val (r_neqb Tryd.runUnderlying4 rfl rfl) ?_
                refine s_val (r_pickf rfl rfl) ?_
                refine c_nil (l' := [_, _, _, _, _, _, _, _, _, _, _, _, _, _, _, _, _, _, _, _, _, _, _, _, _, _, _, _, _, _, _, _, _, _, _, _, _, _, _, _, _, _, _, _, _, _, _, _, _, _, _, _, _, _, _, _, _, _, _, _, _, _, _, _, _, _, _, _, _, _, _, _, _, _, _, _, _, _, _, _, _, _, _, _, _, _, _, _, _, _, _, _, _, _, _, _, _, _, _, _, _, _, _, _, _, _, _, _, _, _, _, _, _, _, _, _, _, _, _, _, _, _, _, _, _, _, _, _, _, _, _, _, _]) rfl ?_
                refine c_ifb rfl (fun h125 => ?_) (fun h125 => ?_)
                · skip
                  simp at h125
                · skip
                  refine wp_skip ?_
                  refine x_blockNormal ?_
                  refine x_thenNormal ?_
                  refine c_region (n := 133) ⟨rfl, rfl⟩ ?_
                  refine s_val (r_add rfl rfl (w_u64 (by omega) (by omega))) ?_
                  refine s_val (r_move rfl) ?_
                  refine c_nil0 (l' := [_, _, _, _, _, _, _, _, _, _, _, _, _, _, _, _, _, _, _, _, _, _, _, _, _, _, _, _, _, _, _, _, _, _, _, _, _, _, _, _, _, _, _, _, _, _, _, _, _, _, _, _, _, _, _, _, _, _, _, _, _, _, _, _, _, _, _, _, _, _, _, _, _, _, _, _, _, _, _, _, _, _, _, _, _, _, _, _, _, _, _, _, _, _, _, _, _, _, _, _, _, _, _, _, _, _, _, _, _, _, _, _, _, _, _, _, _, _, _, _, _, _, _, _, _, _, _, _, _, _, _, _, _]) rfl ?_
                  replace H := H.sub (.cons _ (.cons _ (.cons_cons _ (List.Sublist.refl _))))
                  exact ⟨j + 1, _, rfl, ⟨_, _, _, _, _, _, _, _, _, _, _, _, _, _, _, _, _, _, _, _, _, _, _, _, _, _, _, _, _, _, _, _, _, _, _, rfl, by omega, H⟩, by omega⟩
            · skip
              refine wp_exit (x_thenExit (x_thenExit (x_blockHit ?_)))
              refine x_blockNormal ?_
              refine x_thenNormal ?_
              refine c_region (n := 133) ⟨rfl, rfl⟩ ?_
              refine s_val (r_add rfl rfl (w_i64 (by omega) (by omega))) ?_
              refine s_val (r_move rfl) ?_
              refine c_nil0 (l' := [_, _, _, _, _, _, _, _, _, _, _, _, _, _, _, _, _, _, _, _, _, _, _, _, _, _, _, _, _, _, _, _, _, _, _, _, _, _, _, _, _, _, _, _, _, _, _, _, _, _, _, _, _, _, _, _, _, _, _, _, _, _, _, _, _, _, _, _, _, _, _, _, _, _, _, _, _, _, _, _, _, _, _, _, _, _, _, _, _, _, _, _, _, _, _, _, _, _, _, _, _, _, _, _, _, _, _, _, _, _, _, _, _, _, _, _, _, _, _, _, _, _, _, _, _, _, _, _, _, _, _, _, _]) rfl ?_
              exact ⟨i + 1, _, rfl, ⟨_, _, _, _, _, _, _, _, _, _, _, _, _, _, _, _, _, _, _, _, _, _, _, _, _, _, _, _, _, _, _, _, _, _, _, _, _, _, _, _, _, rfl, by omega, H⟩, by omega⟩
          · skip
            refine wp_exit (x_thenExit (x_thenExit (x_blockHit ?_)))
            refine x_thenNormal ?_
            refine c_rseq (n := 133) ⟨rfl, rfl⟩ ?_
            refine s_val (r_move rfl) ?_
            refine s_call (r_call Tryd.call21 (ec rfl en)) (count_spec _ _ xs N (by omega) hvx _ hTr (H.ownsM (.cons _ (List.sublist_append_right Nu N)))) ?_
            rintro v w ⟨rfl, HC⟩
            replace H := H.quiet HC
            refine s_val (r_move rfl) ?_
            refine s_call (r_call Tryd.call21 (ec rfl en)) (count_spec _ _ xs Nu (by omega) hvx _ hTu (H.ownsM (.cons _ (List.sublist_append_left Nu N)))) ?_
            rintro v w ⟨rfl, HC⟩
            replace H := H.quiet HC
            refine s_val (r_eql rfl rfl) ?_
            refine s_val (r_assign rfl) ?_
            refine c_nil (l' := [_, _, _, _, _, _, _, _, _, _, _, _, _, _, _, _, _, _, _, _, _, _, _, _, _, _, _, _, _, _, _, _, _, _, _, _, _, _, _, _, _, _, _, _, _, _, _, _, _, _, _, _, _, _, _, _, _, _, _, _, _, _, _, _, _, _, _, _, _, _, _, _, _, _, _, _, _, _, _, _, _, _, _, _, _, _, _, _, _, _, _, _, _, _, _, _, _, _, _, _, _, _, _, _, _, _, _, _, _, _, _, _, _, _, _, _, _, _, _, _, _, _, _, _, _, _, _, _, _, _, _, _, _]) rfl ?_
            refine wp_ret ?_
            refine e_ret (res1 rfl rfl) ⟨_, rfl, ?_⟩
            exact ⟨by rw [decide_eq_true rfl], H.sub (List.nil_sublist _)⟩
      · skip
        exact absurd hvx hn

end Go.Proofs.YtblphhclfloodaaDoor
