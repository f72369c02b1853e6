import Derived.Test.YtblphhclfloodaaDoorJ2
import Derived.Test.YtblphhclfloodaaDoorT7
namespace Go.Proofs.YtblphhclfloodaaDoor
open Go Go.Er

theorem dec_okN (a : Option Addr) (cap n m : Nat) (ys : List Held) (hn : n = (encB ys).length) (hm : m = ys.length) (hl : ys.length ≤ 20000) (hc : n ≤ cap) (w0 : World) (hr : BRow w0 a (encB ys)) (hT : TabH w0) (hV : Valid ys) :
    Calls Tryd.prog 16 #[.slice a n cap] w0 fun e w => ∃ v, e = .returned v ∧ ∃ a' cap' N, v = .tuple #[.slice a' m cap', .int .i64 0] ∧ RowN 34 55 (hsC ys) m a' cap' N ∧ St w0 [] w N := by
  subst hn hm
  exact dec_ok a cap ys hl hc w0 hr hT hV
theorem same_yes (a a2 : Option Addr) (cap cap2 n n2 : Nat) (ys : List Held) (hn : n = ys.length) (hn2 : n2 = ys.length) (hl : ys.length ≤ 1000000) (w0 : World) (hr : HRow w0 a ys) (hr2 : HRow w0 a2 ys) :
    Calls Tryd.prog 15 #[.slice a n cap, .slice a2 n2 cap2] w0 fun e w => ∃ v, e = .returned v ∧ v = .bool true ∧ St w0 [] w [] := by
  subst hn; subst hn2
  exact (same_spec a a2 cap cap2 ys ys hl w0 hr hr2).mono fun _ _ ⟨v, he, hv, h⟩ => ⟨v, he, by rw [hv, decide_eq_true rfl], h⟩


set_option maxHeartbeats 4000000 in
set_option maxRecDepth 20000 in
theorem spoilt_law (seed : Key) (a : Option Addr) (cap : Nat) (ns : List Int) (hu : U64 ns) (q c : Int) (hq0 : 0 ≤ q) (hq1 : q < 65536) (hc0 : 0 ≤ c) (hc1 : c < 256) (w0 : World) (hr : URow w0 a ns) (hT : TabH w0) :
    Calls Tryd.prog 6 #[.agg (kC seed).toArray, .slice a ns.length cap, .int .u16 q, .int .u8 c] w0 fun e w => ∃ v, e = .returned v ∧ (v = .bool true ∧ St w0 [] w []) := by
  have H := St.refl w0
  refine c_enter (args := [.agg (kC seed).toArray, .slice a ns.length cap, .int .u16 q, .int .u8 c]) (l := [.agg (kC seed).toArray, .slice a ns.length cap, .int .u16 q, .int .u8 c, undef, undef, undef, undef, undef, undef, undef, undef, undef, undef, undef, undef, undef, undef, undef, undef, undef, undef, undef, undef, undef, undef, undef, undef, undef, undef, undef, undef, undef, undef, undef, undef, undef, undef, undef, undef, undef, undef, undef, undef, undef, undef, undef, undef, undef, undef, undef, undef, undef, undef, undef, undef, undef, undef, undef, undef, undef, undef, undef, undef, undef, undef, undef, undef, undef, undef, undef, undef, undef, undef, undef, undef, undef, undef, undef, undef, undef, undef, undef, undef, undef, undef, undef, undef, undef, undef, undef, undef, undef, undef, undef, undef, undef, undef, undef, undef, undef, undef, undef, undef, undef, undef, undef, undef, undef, undef, undef, undef, undef, undef, undef]) Tryd.func6 Tryd.ntmps6 rfl rfl ?_
  refine c_rseq (n := 115) ⟨rfl, rfl⟩ ?_
  refine s_new (m_box (cs := (kC seed)) H rfl rfl) ?_
  intro w b4 H
  refine s_val (r_assign rfl) ?_
  refine c_nil (l' := [_, _, _, _, _, _, _, _, _, _, _, _, _, _, _, _, _, _, _, _, _, _, _, _, _, _, _, _, _, _, _, _, _, _, _, _, _, _, _, _, _, _, _, _, _, _, _, _, _, _, _, _, _, _, _, _, _, _, _, _, _, _, _, _, _, _, _, _, _, _, _, _, _, _, _, _, _, _, _, _, _, _, _, _, _, _, _, _, _, _, _, _, _, _, _, _, _, _, _, _, _, _, _, _, _, _, _, _, _, _, _, _, _, _, _]) rfl ?_
  refine c_seq ?_
  refine c_rseq (n := 115) ⟨rfl, rfl⟩ ?_
  refine s_call (r_call Tryd.call11 en) (awake_spec _ (hT.st H)) ?_
  rintro v w ⟨rfl, HC⟩
  replace H := H.quiet HC
  refine s_val (r_not rfl) ?_
  refine c_nil (l' := [_, _, _, _, _, _, _, _, _, _, _, _, _, _, _, _, _, _, _, _, _, _, _, _, _, _, _, _, _, _, _, _, _, _, _, _, _, _, _, _, _, _, _, _, _, _, _, _, _, _, _, _, _, _, _, _, _, _, _, _, _, _, _, _, _, _, _, _, _, _, _, _, _, _, _, _, _, _, _, _, _, _, _, _, _, _, _, _, _, _, _, _, _, _, _, _, _, _, _, _, _, _, _, _, _, _, _, _, _, _, _, _, _, _, _]) rfl ?_
  refine c_iff rfl ?_
  refine wp_skip ?_
  refine x_thenNormal ?_
  refine c_seq ?_
  refine c_rseq (n := 115) ⟨rfl, rfl⟩ ?_
  refine s_val (r_move rfl) ?_
  refine s_val (r_lens Tryd.runUnderlying44 (ec rfl en)) ?_
  refine s_val (r_gtr rfl rfl) ?_
  refine c_nil (l' := [_, _, _, _, _, _, _, _, _, _, _, _, _, _, _, _, _, _, _, _, _, _, _, _, _, _, _, _, _, _, _, _, _, _, _, _, _, _, _, _, _, _, _, _, _, _, _, _, _, _, _, _, _, _, _, _, _, _, _, _, _, _, _, _, _, _, _, _, _, _, _, _, _, _, _, _, _, _, _, _, _, _, _, _, _, _, _, _, _, _, _, _, _, _, _, _, _, _, _, _, _, _, _, _, _, _, _, _, _, _, _, _, _, _, _]) rfl ?_
  refine c_if rfl (fun h24 => ?_) (fun h24 => ?_)
  · skip
    skip
    refine c_rseq (n := 115) ⟨rfl, rfl⟩ ?_
    refine s_val (r_assign rfl) ?_
    refine c_nil (l' := [_, _, _, _, _, _, _, _, _, _, _, _, _, _, _, _, _, _, _, _, _, _, _, _, _, _, _, _, _, _, _, _, _, _, _, _, _, _, _, _, _, _, _, _, _, _, _, _, _, _, _, _, _, _, _, _, _, _, _, _, _, _, _, _, _, _, _, _, _, _, _, _, _, _, _, _, _, _, _, _, _, _, _, _, _, _, _, _, _, _, _, _, _, _, _, _, _, _, _, _, _, _, _, _, _, _, _, _, _, _, _, _, _, _, _]) rfl ?_
    refine wp_ret (x_thenRet ?_)
    refine e_ret (res1 rfl rfl) ⟨_, rfl, ?_⟩
    exact ⟨rfl, H.sub (List.nil_sublist _)⟩
  · skip
    skip
    refine wp_skip ?_
    refine x_thenNormal ?_
    refine c_rseq (n := 115) ⟨rfl, rfl⟩ ?_
    refine s_val (r_buildS Tryd.runUnderlying50 Tryd.zeroValue50 places50 pn rfl) ?_
    refine s_val (r_makeIface Tryd.runUnderlying50 (fun _ h => nomatch h) rfl) ?_
    refine s_val (r_loadn Tryd.isAgg43 Tryd.sizeOf43 rfl (H.at 0 rfl) (by first | exact (kC_td _) | exact (hC_td _) | exact (hC_seed _)) (by first | exact (kC_length _) | exact (hC_length _) | exact rfl)) ?_
    refine s_call (r_call Tryd.call18 (ec rfl (ec rfl en))) (new_spec _ _ litL litR (splits_lit _) _) ?_
    rintro v w ⟨bt, N, rfl, hT0, HC⟩
    obtain ⟨ci, hci, hTr⟩ : ∃ ci, SplitsBy Tryd.prog ci litL litR ∧ TreeN 77 55 bt ci [root seed] N := ⟨_, splits_lit _, hT0⟩
    replace H : St w0 [] _ (_ :: N) := (H.call0 HC).perm (List.perm_append_comm (l₁ := [_]))
    refine s_val (r_assign rfl) ?_
    refine c_nil (l' := [_, _, _, _, _, _, _, _, _, _, _, _, _, _, _, _, _, _, _, _, _, _, _, _, _, _, _, _, _, _, _, _, _, _, _, _, _, _, _, _, _, _, _, _, _, _, _, _, _, _, _, _, _, _, _, _, _, _, _, _, _, _, _, _, _, _, _, _, _, _, _, _, _, _, _, _, _, _, _, _, _, _, _, _, _, _, _, _, _, _, _, _, _, _, _, _, _, _, _, _, _, _, _, _, _, _, _, _, _, _, _, _, _, _, _]) rfl ?_
    refine c_seq ?_
    refine c_rseq (n := 115) ⟨rfl, rfl⟩ ?_
    refine s_val (r_move rfl) ?_
    refine s_val (r_lens Tryd.runUnderlying44 (ec rfl en)) ?_
    refine s_val (r_move rfl) ?_
    refine c_nil (l' := [_, _, _, _, _, _, _, _, _, _, _, _, _, _, _, _, _, _, _, _, _, _, _, _, _, _, _, _, _, _, _, _, _, _, _, _, _, _, _, _, _, _, _, _, _, _, _, _, _, _, _, _, _, _, _, _, _, _, _, _, _, _, _, _, _, _, _, _, _, _, _, _, _, _, _, _, _, _, _, _, _, _, _, _, _, _, _, _, _, _, _, _, _, _, _, _, _, _, _, _, _, _, _, _, _, _, _, _, _, _, _, _, _, _, _]) rfl ?_
    refine wp_block ?_
    refine c_loop (fun (l0 : List Value) (i : Nat) (l : List Value) (w : World) => ∃ (u11 u32 u33 u34 u35 u36 u37 u38 u39 : Value) (N : List (Nat × Obj)) (la : List Int) (xs : List Held), l = ovr l0 [N_, N_, N_, N_, N_, N_, N_, N_, N_, N_, N_, Y_ u11, N_, N_, N_, N_, N_, N_, N_, N_, N_, N_, N_, N_, N_, N_, N_, N_, N_, N_, N_, Y_ (.int .i64 i), Y_ u32, Y_ u33, Y_ u34, Y_ u35, Y_ u36, Y_ u37, Y_ u38, Y_ u39] ∧ i ≤ ns.length ∧ xs = tree0 litL litR seed la ∧ TreeN 77 55 bt ci xs N ∧ xs.length ≤ 1 + 17 * i ∧ St w0 [] w ((b4, .cells (kC seed).toArray 43 (0, 0)) :: N)) (fun (i : Nat) => ns.length - i) 0 ⟨_, _, _, _, _, _, _, _, _, N, [], [root seed], rfl, by omega, tree0_nil.symm, hTr, by show 1 ≤ _; omega, H⟩ ?_
    intro i l w ⟨u11, u32, u33, u34, u35, u36, u37, u38, u39, N, la, xs, hl, hi, hxs, hTr, hlx, H⟩
    obtain rfl := hl.trans (rfl : _ = [_, _, _, _, _, _, _, _, _, _, _, _, _, _, _, _, _, _, _, _, _, _, _, _, _, _, _, _, _, _, _, _, _, _, _, _, _, _, _, _, _, _, _, _, _, _, _, _, _, _, _, _, _, _, _, _, _, _, _, _, _, _, _, _, _, _, _, _, _, _, _, _, _, _, _, _, _, _, _, _, _, _, _, _, _, _, _, _, _, _, _, _, _, _, _, _, _, _, _, _, _, _, _, _, _, _, _, _, _, _, _, _, _, _, _])
    clear hl
    have hvx : Valid xs := by rw [hxs]; exact tree0_valid la
    refine c_rseq (n := 115) ⟨rfl, rfl⟩ ?_
    refine s_val (r_lss rfl rfl) ?_
    refine c_nil (l' := [_, _, _, _, _, _, _, _, _, _, _, _, _, _, _, _, _, _, _, _, _, _, _, _, _, _, _, _, _, _, _, _, _, _, _, _, _, _, _, _, _, _, _, _, _, _, _, _, _, _, _, _, _, _, _, _, _, _, _, _, _, _, _, _, _, _, _, _, _, _, _, _, _, _, _, _, _, _, _, _, _, _, _, _, _, _, _, _, _, _, _, _, _, _, _, _, _, _, _, _, _, _, _, _, _, _, _, _, _, _, _, _, _, _, _]) rfl ?_
    refine c_seq ?_
    refine c_if rfl (fun h32 => ?_) (fun h32 => ?_)
    · skip
      obtain ⟨bu, off, pre, post, T, fz, rfl, hbu, hpu⟩ := hr (by omega)
      obtain ⟨hn0, hn1⟩ := hu.get (i := i) (by omega)
      have hlp := len_tree (sl := litL) (sr := litR) (n := (ns.getD i 0 % 131072)) hvx
      refine wp_skip ?_
      refine x_thenNormal ?_
      refine c_seq ?_
      refine wp_block ?_
      refine c_rseq (n := 115) ⟨rfl, rfl⟩ ?_
      refine s_val (r_indexAddrS Tryd.runUnderlying44 Tryd.sizeOf38 rfl rfl (by omega) (by omega)) ?_
      refine s_val (r_load1 Tryd.isAgg38 rfl (H.rd0 hbu) (u_get pre ns post i hpu (by omega) (by omega))) ?_
      refine s_val (r_assign rfl) ?_
      refine c_nil (l' := [_, _, _, _, _, _, _, _, _, _, _, _, _, _, _, _, _, _, _, _, _, _, _, _, _, _, _, _, _, _, _, _, _, _, _, _, _, _, _, _, _, _, _, _, _, _, _, _, _, _, _, _, _, _, _, _, _, _, _, _, _, _, _, _, _, _, _, _, _, _, _, _, _, _, _, _, _, _, _, _, _, _, _, _, _, _, _, _, _, _, _, _, _, _, _, _, _, _, _, _, _, _, _, _, _, _, _, _, _, _, _, _, _, _, _]) rfl ?_
      refine c_region (n := 115) ⟨rfl, rfl⟩ ?_
      refine s_val (r_move rfl) ?_
      refine s_val (r_move rfl) ?_
      refine s_val (r_rem rfl rfl (by omega) (Int.tmod_eq_emod_of_nonneg (by omega))) ?_
      refine s_call (r_call Tryd.call19 (ec rfl (ec rfl en))) (punc_t _ _ xs (ns.getD i 0 % 131072) N litL litR hci (by omega) hvx (by omega) (by omega) _ hTr (H.ownsM (.cons _ (List.Sublist.refl _)))) ?_
      rintro v w ⟨rfl, N2, hT2, HC⟩
      replace H : St w0 [] _ (_ :: N2) := St.callr (L := [_]) H HC
      refine c_nil0 (l' := [_, _, _, _, _, _, _, _, _, _, _, _, _, _, _, _, _, _, _, _, _, _, _, _, _, _, _, _, _, _, _, _, _, _, _, _, _, _, _, _, _, _, _, _, _, _, _, _, _, _, _, _, _, _, _, _, _, _, _, _, _, _, _, _, _, _, _, _, _, _, _, _, _, _, _, _, _, _, _, _, _, _, _, _, _, _, _, _, _, _, _, _, _, _, _, _, _, _, _, _, _, _, _, _, _, _, _, _, _, _, _, _, _, _, _]) rfl ?_
      refine x_blockNormal ?_
      refine x_thenNormal ?_
      refine c_region (n := 115) ⟨rfl, rfl⟩ ?_
      refine s_val (r_add rfl rfl (w_i64 (by omega) (by omega))) ?_
      refine s_val (r_move rfl) ?_
      refine c_nil0 (l' := [_, _, _, _, _, _, _, _, _, _, _, _, _, _, _, _, _, _, _, _, _, _, _, _, _, _, _, _, _, _, _, _, _, _, _, _, _, _, _, _, _, _, _, _, _, _, _, _, _, _, _, _, _, _, _, _, _, _, _, _, _, _, _, _, _, _, _, _, _, _, _, _, _, _, _, _, _, _, _, _, _, _, _, _, _, _, _, _, _, _, _, _, _, _, _, _, _, _, _, _, _, _, _, _, _, _, _, _, _, _, _, _, _, _, _]) rfl ?_
      exact ⟨i + 1, _, rfl, ⟨_, _, _, _, _, _, _, _, _, N2, _, (punc litL litR xs (ns.getD i 0 % 131072)), rfl, by omega, by rw [hxs, tree0_punc], hT2, by omega, H⟩, by omega⟩
    · skip
      obtain rfl : i = ns.length := by omega
      refine wp_exit (x_thenExit (x_thenExit (x_blockHit ?_)))
      refine x_thenNormal ?_
      refine c_rseq (n := 115) ⟨rfl, rfl⟩ ?_
      refine s_val (r_move rfl) ?_
      refine s_call (r_call Tryd.call20 (ec rfl en)) (held_spec _ _ xs N (by omega) hvx _ hTr (H.ownsM (.cons _ (List.Sublist.refl _)))) ?_
      rintro v w ⟨ah, caph, Nh, rfl, hNh, HC⟩
      replace H := H.call0 HC
      refine s_val (r_assign rfl) ?_
      refine c_nil (l' := [_, _, _, _, _, _, _, _, _, _, _, _, _, _, _, _, _, _, _, _, _, _, _, _, _, _, _, _, _, _, _, _, _, _, _, _, _, _, _, _, _, _, _, _, _, _, _, _, _, _, _, _, _, _, _, _, _, _, _, _, _, _, _, _, _, _, _, _, _, _, _, _, _, _, _, _, _, _, _, _, _, _, _, _, _, _, _, _, _, _, _, _, _, _, _, _, _, _, _, _, _, _, _, _, _, _, _, _, _, _, _, _, _, _, _]) rfl ?_
      refine c_seq ?_
      refine c_rseq (n := 115) ⟨rfl, rfl⟩ ?_
      refine s_val (r_move rfl) ?_
      refine s_val (r_lens Tryd.runUnderlying22 (ec rfl en)) ?_
      refine s_val (r_eql rfl rfl) ?_
      refine c_nil (l' := [_, _, _, _, _, _, _, _, _, _, _, _, _, _, _, _, _, _, _, _, _, _, _, _, _, _, _, _, _, _, _, _, _, _, _, _, _, _, _, _, _, _, _, _, _, _, _, _, _, _, _, _, _, _, _, _, _, _, _, _, _, _, _, _, _, _, _, _, _, _, _, _, _, _, _, _, _, _, _, _, _, _, _, _, _, _, _, _, _, _, _, _, _, _, _, _, _, _, _, _, _, _, _, _, _, _, _, _, _, _, _, _, _, _, _]) rfl ?_
      refine c_if rfl (fun h44 => ?_) (fun h44 => ?_)
      · skip
        refine c_rseq (n := 115) ⟨rfl, rfl⟩ ?_
        refine s_val (r_assign rfl) ?_
        refine c_nil (l' := [_, _, _, _, _, _, _, _, _, _, _, _, _, _, _, _, _, _, _, _, _, _, _, _, _, _, _, _, _, _, _, _, _, _, _, _, _, _, _, _, _, _, _, _, _, _, _, _, _, _, _, _, _, _, _, _, _, _, _, _, _, _, _, _, _, _, _, _, _, _, _, _, _, _, _, _, _, _, _, _, _, _, _, _, _, _, _, _, _, _, _, _, _, _, _, _, _, _, _, _, _, _, _, _, _, _, _, _, _, _, _, _, _, _, _]) rfl ?_
        refine wp_ret (x_thenRet ?_)
        refine e_ret (res1 rfl rfl) ⟨_, rfl, ?_⟩
        exact ⟨rfl, H.sub (List.nil_sublist _)⟩
      · skip
        obtain ⟨bs, sp, rfl, hcs, rfl, hcp⟩ := hNh.some (by omega)
        replace H : St w0 [] _ [(bs, .cells (hsC xs ++ sp).toArray 55 (0, 0))] := H.sub (.cons_cons _ (List.nil_sublist _))
        have hrs : HRow w (some ⟨bs, 0, none⟩) xs := fun _ => ⟨bs, 0, [], sp, _, _, rfl, H.at 0 rfl, rfl⟩
        refine wp_skip ?_
        refine x_thenNormal ?_
        refine c_rseq (n := 115) ⟨rfl, rfl⟩ ?_
        refine s_val (r_move rfl) ?_
        refine s_call (r_call Tryd.call12 (ec rfl en)) (enc_ok _ _ xs (by omega) hvx.inR _ hrs (hT.st (H.sub (List.nil_sublist _))) hvx) ?_
        rintro v w ⟨ab, capb, Nb, rfl, hNb, HC⟩
        have hel := encB_length xs
        obtain ⟨bb, spb, rfl, hcsb, rfl, hcpb⟩ := hNb.some (by omega)
        replace H := H.call0 HC
        refine s_val (r_move rfl) ?_
        refine s_val (r_extract rfl rfl) ?_
        refine s_val (r_extract rfl rfl) ?_
        refine s_val (r_assign rfl) ?_
        refine s_val (r_assign rfl) ?_
        refine c_nil (l' := [_, _, _, _, _, _, _, _, _, _, _, _, _, _, _, _, _, _, _, _, _, _, _, _, _, _, _, _, _, _, _, _, _, _, _, _, _, _, _, _, _, _, _, _, _, _, _, _, _, _, _, _, _, _, _, _, _, _, _, _, _, _, _, _, _, _, _, _, _, _, _, _, _, _, _, _, _, _, _, _, _, _, _, _, _, _, _, _, _, _, _, _, _, _, _, _, _, _, _, _, _, _, _, _, _, _, _, _, _, _, _, _, _, _, _]) rfl ?_
        refine c_rseq (n := 115) ⟨rfl, rfl⟩ ?_
        refine s_val (r_move rfl) ?_
        refine s_val (r_conv Tryd.runUnderlying45 Tryd.runUnderlying3 rfl (w_i64 (by omega) (by omega))) ?_
        refine s_val (r_move rfl) ?_
        refine s_val (r_lens Tryd.runUnderlying22 (ec rfl en)) ?_
        obtain ⟨k, hk⟩ : ∃ k : Nat, (k : Int) = q % (xs.length : Int) := ⟨_, Int.toNat_of_nonneg (Int.emod_nonneg _ (by omega))⟩
        have hkl : k < xs.length := by have := Int.emod_lt_of_pos q (by omega : (0 : Int) < (xs.length : Int)); omega
        refine s_val (r_rem rfl rfl (by omega) ((Int.tmod_eq_emod_of_nonneg (by omega)).trans hk.symm)) ?_
        refine s_val (r_move rfl) ?_
        refine s_val (r_conv Tryd.runUnderlying45 Tryd.runUnderlying3 rfl (w_i64 (by omega) (by omega))) ?_
        obtain ⟨t, ht⟩ : ∃ t : Nat, (t : Int) = q % 32 := ⟨_, Int.toNat_of_nonneg (Int.emod_nonneg _ (by omega))⟩
        have htl : t < 32 := by omega
        refine s_val (r_rem rfl rfl (by omega) ((Int.tmod_eq_emod_of_nonneg (by omega)).trans ht.symm)) ?_
        refine s_val (r_assign rfl) ?_
        refine s_val (r_assign rfl) ?_
        refine c_nil (l' := [_, _, _, _, _, _, _, _, _, _, _, _, _, _, _, _, _, _, _, _, _, _, _, _, _, _, _, _, _, _, _, _, _, _, _, _, _, _, _, _, _, _, _, _, _, _, _, _, _, _, _, _, _, _, _, _, _, _, _, _, _, _, _, _, _, _, _, _, _, _, _, _, _, _, _, _, _, _, _, _, _, _, _, _, _, _, _, _, _, _, _, _, _, _, _, _, _, _, _, _, _, _, _, _, _, _, _, _, _, _, _, _, _, _, _]) rfl ?_
        refine c_seq ?_
        refine c_rseq (n := 115) ⟨rfl, rfl⟩ ?_
        refine s_val (r_move rfl) ?_
        refine s_val (r_lens Tryd.runUnderlying24 (ec rfl en)) ?_
        refine s_val (r_move rfl) ?_
        refine s_val (r_lens Tryd.runUnderlying22 (ec rfl en)) ?_
        refine s_val (r_mul rfl rfl (w_i64 (by omega) (by omega))) ?_
        refine s_val (r_add rfl rfl (w_i64 (by omega) (by omega))) ?_
        refine s_val (r_neq rfl rfl) ?_
        refine c_nil (l' := [_, _, _, _, _, _, _, _, _, _, _, _, _, _, _, _, _, _, _, _, _, _, _, _, _, _, _, _, _, _, _, _, _, _, _, _, _, _, _, _, _, _, _, _, _, _, _, _, _, _, _, _, _, _, _, _, _, _, _, _, _, _, _, _, _, _, _, _, _, _, _, _, _, _, _, _, _, _, _, _, _, _, _, _, _, _, _, _, _, _, _, _, _, _, _, _, _, _, _, _, _, _, _, _, _, _, _, _, _, _, _, _, _, _, _]) rfl ?_
        refine c_if rfl (fun h64 => ?_) (fun h64 => ?_)
        · skip
          exfalso; omega
        · skip
          refine wp_skip ?_
          refine x_thenNormal ?_
          refine c_rseq (n := 115) ⟨rfl, rfl⟩ ?_
          refine s_val (r_move rfl) ?_
          refine s_val (r_move rfl) ?_
          refine s_val (r_mul rfl rfl (w_i64 (by omega) (by omega))) ?_
          refine s_val (r_add rfl rfl (w_i64 (by omega) (by omega))) ?_
          refine s_val (r_add rfl rfl (w_i64 (by omega) (by omega))) ?_
          refine s_val (r_move rfl) ?_
          refine s_val (r_add rfl rfl (w_i64 (by omega) (by omega))) ?_
          refine s_val (r_indexAddrS Tryd.runUnderlying24 Tryd.sizeOf5 rfl rfl (by omega) (by omega)) ?_
          refine s_val (r_load1 Tryd.isAgg5 rfl (H.at 0 rfl) (bs_getE (off := 0) [] (encB xs) spb (2 + 36 * k + (4 + t)) rfl (by omega) (by omega))) ?_
          refine s_val (r_move rfl) ?_
          obtain ⟨z, hz⟩ : ∃ z, z = byt (nd xs k).seed t ^^^ UInt8.ofNat c.toNat := ⟨_, rfl⟩
          have hsl := spoil_length xs k t z
          have hes : (encB (spoil xs k t z)).length = (encB xs).length := by rw [encB_length, encB_length, hsl]
          have hvs : Valid (spoil xs k t z) := spoil_valid hvx
          refine s_val (r_xor rfl rfl (show _ = ((z.toNat : Nat) : Int) by rw [enc_byte hkl htl rfl, hz]; exact xor_u8 _ hc0 hc1)) ?_
          refine s_val (r_indexAddrS Tryd.runUnderlying24 Tryd.sizeOf5 rfl rfl (by omega) (by omega)) ?_
          refine s_st (m_store1 H 0 Tryd.sizeOf5 rfl rfl rfl rfl (by rw [List.length_append, bC_length]; omega) (enc_store z hkl htl (by omega))) (L' := (_ :: _ :: _)) rfl ?_
          intro w H
          have hrb : BRow w (some ⟨bb, 0, none⟩) (encB (spoil xs k t z)) := fun _ => ⟨bb, 0, [], spb, _, _, rfl, H.at 0 rfl, rfl⟩
          refine c_nil (l' := [_, _, _, _, _, _, _, _, _, _, _, _, _, _, _, _, _, _, _, _, _, _, _, _, _, _, _, _, _, _, _, _, _, _, _, _, _, _, _, _, _, _, _, _, _, _, _, _, _, _, _, _, _, _, _, _, _, _, _, _, _, _, _, _, _, _, _, _, _, _, _, _, _, _, _, _, _, _, _, _, _, _, _, _, _, _, _, _, _, _, _, _, _, _, _, _, _, _, _, _, _, _, _, _, _, _, _, _, _, _, _, _, _, _, _]) rfl ?_
          refine c_rseq (n := 115) ⟨rfl, rfl⟩ ?_
          refine s_val (r_move rfl) ?_
          refine s_call (r_call Tryd.call16 (ec rfl en)) (dec_okN _ _ (encB xs).length xs.length (spoil xs k t z) hes.symm hsl.symm (by omega) (by omega) _ hrb (hT.st (H.sub (List.nil_sublist _))) hvs) ?_
          rintro v w ⟨al, capl, Nl, rfl, hNl, HC⟩
          replace H : St w0 [] _ (_ :: _ :: Nl) := (H.call0 HC).perm (List.perm_append_comm (l₁ := [_, _]))
          refine s_val (r_move rfl) ?_
          refine s_val (r_extract rfl rfl) ?_
          refine s_val (r_extract rfl rfl) ?_
          refine s_val (r_assign rfl) ?_
          refine s_val (r_assign rfl) ?_
          refine c_nil (l' := [_, _, _, _, _, _, _, _, _, _, _, _, _, _, _, _, _, _, _, _, _, _, _, _, _, _, _, _, _, _, _, _, _, _, _, _, _, _, _, _, _, _, _, _, _, _, _, _, _, _, _, _, _, _, _, _, _, _, _, _, _, _, _, _, _, _, _, _, _, _, _, _, _, _, _, _, _, _, _, _, _, _, _, _, _, _, _, _, _, _, _, _, _, _, _, _, _, _, _, _, _, _, _, _, _, _, _, _, _, _, _, _, _, _, _]) rfl ?_
          refine c_seq ?_
          refine c_rseq (n := 115) ⟨rfl, rfl⟩ ?_
          refine s_val (r_move rfl) ?_
          refine s_val (r_neq rfl rfl) ?_
          refine s_val (r_move rfl) ?_
          refine g_yes rfl rfl ?_
          refine s_val (r_move rfl) ?_
          refine g_yes rfl rfl ?_
          refine s_val (r_lens Tryd.runUnderlying22 (ec rfl en)) ?_
          refine g_yes rfl rfl ?_
          refine s_val (r_move rfl) ?_
          refine g_yes rfl rfl ?_
          refine s_val (r_lens Tryd.runUnderlying22 (ec rfl en)) ?_
          refine g_yes rfl rfl ?_
          refine s_val (r_neq rfl rfl) ?_
          refine s_val (r_pickf rfl rfl) ?_
          refine c_nil (l' := [_, _, _, _, _, _, _, _, _, _, _, _, _, _, _, _, _, _, _, _, _, _, _, _, _, _, _, _, _, _, _, _, _, _, _, _, _, _, _, _, _, _, _, _, _, _, _, _, _, _, _, _, _, _, _, _, _, _, _, _, _, _, _, _, _, _, _, _, _, _, _, _, _, _, _, _, _, _, _, _, _, _, _, _, _, _, _, _, _, _, _, _, _, _, _, _, _, _, _, _, _, _, _, _, _, _, _, _, _, _, _, _, _, _, _]) rfl ?_
          refine c_if rfl (fun h90 => ?_) (fun h90 => ?_)
          · skip
            exfalso; omega
          · skip
            refine wp_skip ?_
            refine x_thenNormal ?_
            refine c_seq ?_
            refine c_rseq (n := 115) ⟨rfl, rfl⟩ ?_
            refine s_val (r_move rfl) ?_
            refine s_val (r_lens Tryd.runUnderlying24 (ec rfl en)) ?_
            refine s_val (r_move rfl) ?_
            refine c_nil (l' := [_, _, _, _, _, _, _, _, _, _, _, _, _, _, _, _, _, _, _, _, _, _, _, _, _, _, _, _, _, _, _, _, _, _, _, _, _, _, _, _, _, _, _, _, _, _, _, _, _, _, _, _, _, _, _, _, _, _, _, _, _, _, _, _, _, _, _, _, _, _, _, _, _, _, _, _, _, _, _, _, _, _, _, _, _, _, _, _, _, _, _, _, _, _, _, _, _, _, _, _, _, _, _, _, _, _, _, _, _, _, _, _, _, _, _]) rfl ?_
            refine wp_block ?_
            refine c_loop (fun (l0 : List Value) (j : Nat) (l : List Value) (w : World) => ∃ (u19 u94 u95 u96 u97 u98 u99 : Value) (cs : List Value), l = ovr l0 [N_, N_, N_, N_, N_, N_, N_, N_, N_, N_, N_, N_, N_, N_, N_, N_, N_, N_, N_, Y_ u19, N_, N_, N_, N_, N_, N_, N_, N_, N_, N_, N_, N_, N_, N_, N_, N_, N_, N_, N_, N_, N_, N_, N_, N_, N_, N_, N_, N_, N_, N_, N_, N_, N_, N_, N_, N_, N_, N_, N_, N_, N_, N_, N_, N_, N_, N_, N_, N_, N_, N_, N_, N_, N_, N_, N_, N_, N_, N_, N_, N_, N_, N_, N_, N_, N_, N_, N_, N_, N_, N_, N_, N_, N_, Y_ (.int .i64 j), Y_ u94, Y_ u95, Y_ u96, Y_ u97, Y_ u98, Y_ u99] ∧ j ≤ (encB xs).length ∧ (encB xs).length ≤ cs.length ∧ St w0 [] w ((bb, .cells cs.toArray 5 (0, 0)) :: (bs, .cells (hsC xs ++ sp).toArray 55 (0, 0)) :: Nl)) (fun (j : Nat) => (encB xs).length - j) 0 ⟨_, _, _, _, _, _, _, _, rfl, by omega, by rw [List.length_append, bC_length, hes]; omega, H⟩ ?_
            intro j l w ⟨u19, u94, u95, u96, u97, u98, u99, cs, hl, hj, hcl, H⟩
            obtain rfl := hl.trans (rfl : _ = [_, _, _, _, _, _, _, _, _, _, _, _, _, _, _, _, _, _, _, _, _, _, _, _, _, _, _, _, _, _, _, _, _, _, _, _, _, _, _, _, _, _, _, _, _, _, _, _, _, _, _, _, _, _, _, _, _, _, _, _, _, _, _, _, _, _, _, _, _, _, _, _, _, _, _, _, _, _, _, _, _, _, _, _, _, _, _, _, _, _, _, _, _, _, _, _, _, _, _, _, _, _, _, _, _, _, _, _, _, _, _, _, _, _, _])
            clear hl
            refine c_rseq (n := 115) ⟨rfl, rfl⟩ ?_
            refine s_val (r_lss rfl rfl) ?_
            refine c_nil (l' := [_, _, _, _, _, _, _, _, _, _, _, _, _, _, _, _, _, _, _, _, _, _, _, _, _, _, _, _, _, _, _, _, _, _, _, _, _, _, _, _, _, _, _, _, _, _, _, _, _, _, _, _, _, _, _, _, _, _, _, _, _, _, _, _, _, _, _, _, _, _, _, _, _, _, _, _, _, _, _, _, _, _, _, _, _, _, _, _, _, _, _, _, _, _, _, _, _, _, _, _, _, _, _, _, _, _, _, _, _, _, _, _, _, _, _]) rfl ?_
            refine c_seq ?_
            refine c_if rfl (fun h94 => ?_) (fun h94 => ?_)
            · skip
              refine wp_skip ?_
              refine x_thenNormal ?_
              refine c_seq ?_
              refine wp_block ?_
              refine c_rseq (n := 115) ⟨rfl, rfl⟩ ?_
              refine s_val (r_move rfl) ?_
              refine s_val (r_assign rfl) ?_
              refine c_nil (l' := [_, _, _, _, _, _, _, _, _, _, _, _, _, _, _, _, _, _, _, _, _, _, _, _, _, _, _, _, _, _, _, _, _, _, _, _, _, _, _, _, _, _, _, _, _, _, _, _, _, _, _, _, _, _, _, _, _, _, _, _, _, _, _, _, _, _, _, _, _, _, _, _, _, _, _, _, _, _, _, _, _, _, _, _, _, _, _, _, _, _, _, _, _, _, _, _, _, _, _, _, _, _, _, _, _, _, _, _, _, _, _, _, _, _, _]) rfl ?_
              refine c_region (n := 115) ⟨rfl, rfl⟩ ?_
              refine s_val (r_move rfl) ?_
              refine s_val (r_move rfl) ?_
              refine s_val (r_indexAddrS Tryd.runUnderlying24 Tryd.sizeOf5 rfl rfl (by omega) (by omega)) ?_
              refine s_st (m_store1 H 0 Tryd.sizeOf5 rfl rfl rfl rfl (by omega) rfl) (L' := (_ :: _ :: _)) rfl ?_
              intro w H
              refine c_nil0 (l' := [_, _, _, _, _, _, _, _, _, _, _, _, _, _, _, _, _, _, _, _, _, _, _, _, _, _, _, _, _, _, _, _, _, _, _, _, _, _, _, _, _, _, _, _, _, _, _, _, _, _, _, _, _, _, _, _, _, _, _, _, _, _, _, _, _, _, _, _, _, _, _, _, _, _, _, _, _, _, _, _, _, _, _, _, _, _, _, _, _, _, _, _, _, _, _, _, _, _, _, _, _, _, _, _, _, _, _, _, _, _, _, _, _, _, _]) rfl ?_
              refine x_blockNormal ?_
              refine x_thenNormal ?_
              refine c_region (n := 115) ⟨rfl, rfl⟩ ?_
              refine s_val (r_add rfl rfl (w_i64 (by omega) (by omega))) ?_
              refine s_val (r_move rfl) ?_
              refine c_nil0 (l' := [_, _, _, _, _, _, _, _, _, _, _, _, _, _, _, _, _, _, _, _, _, _, _, _, _, _, _, _, _, _, _, _, _, _, _, _, _, _, _, _, _, _, _, _, _, _, _, _, _, _, _, _, _, _, _, _, _, _, _, _, _, _, _, _, _, _, _, _, _, _, _, _, _, _, _, _, _, _, _, _, _, _, _, _, _, _, _, _, _, _, _, _, _, _, _, _, _, _, _, _, _, _, _, _, _, _, _, _, _, _, _, _, _, _, _]) rfl ?_
              exact ⟨j + 1, _, rfl, ⟨_, _, _, _, _, _, _, _, rfl, by omega, by rw [List.length_set]; exact hcl, H⟩, by omega⟩
            · skip
              refine wp_exit (x_thenExit (x_thenExit (x_blockHit ?_)))
              refine x_thenNormal ?_
              refine c_seq ?_
              refine d_begin (sz := 115) ⟨rfl, rfl⟩ (by kernel_rfl) H (H.sub (.cons_cons _ (.cons _ (List.Sublist.refl _)))) rfl ?_
              intro w H
              refine d_take (i := 0) rfl (by kernel_rfl) (fun _ _ _ h => h) (H.sub (.cons_cons _ (.cons _ (List.Sublist.refl _)))) (fun _ _ => r_move rfl) rfl ?_
              refine d_take (i := 1) rfl (by kernel_rfl) (fun _ _ _ h => h) (H.sub (.cons_cons _ (.cons _ (List.Sublist.refl _)))) (fun _ _ => r_move rfl) rfl ?_
              refine d_take (i := 2) rfl (by kernel_rfl) (fun _ _ _ h => h) (H.sub (.cons_cons _ (.cons _ (List.Sublist.refl _)))) (fun _ _ => r_move rfl) rfl ?_
              refine d_take (i := 3) rfl (by kernel_rfl) (fun _ _ _ h => h) (H.sub (.cons_cons _ (.cons _ (List.Sublist.refl _)))) (fun _ _ => r_indexAddrS Tryd.runUnderlying22 Tryd.sizeOf55 rfl rfl (by omega) (by omega)) rfl ?_
              refine d_take (i := 4) rfl (by kernel_rfl) (fun _ _ _ h => h) (H.sub (.cons_cons _ (.cons _ (List.Sublist.refl _)))) (fun _ _ => r_fieldAddr (k := 2) Tryd.runUnderlying55 rfl Tryd.sizeOf43 (by decide) rfl rfl) rfl ?_
              refine d_take (i := 5) rfl (by kernel_rfl) (fun _ _ _ h => h) (H.sub (.cons_cons _ (.cons _ (List.Sublist.refl _)))) (fun _ _ => r_indexAddrA Tryd.runUnderlying43 Tryd.sizeOf5 rfl rfl (by omega) (by omega)) rfl ?_
              refine d_take (i := 7) rfl (by kernel_rfl) (fun _ _ _ h => h) (H.sub (.cons_cons _ (.cons _ (List.Sublist.refl _)))) (fun _ _ => r_move rfl) rfl ?_
              refine d_take (i := 9) rfl (by kernel_rfl) (fun _ _ _ h => h) (H.sub (.cons_cons _ (.cons _ (List.Sublist.refl _)))) (fun _ _ => r_indexAddrS Tryd.runUnderlying22 Tryd.sizeOf55 rfl rfl (by omega) (by omega)) rfl ?_
              refine d_take (i := 10) rfl (by kernel_rfl) (fun _ _ _ h => h) (H.sub (.cons_cons _ (.cons _ (List.Sublist.refl _)))) (fun _ _ => r_fieldAddr (k := 2) Tryd.runUnderlying55 rfl Tryd.sizeOf43 (by decide) rfl rfl) rfl ?_
              refine d_all1 (i := 6) (by kernel_rfl) ?_
              refine b_val rfl go_none (r_load1 Tryd.isAgg5 rfl (H.at 1 rfl) (hs_seed (off := 0) [] xs sp k t rfl (by omega) (by omega) (by omega))) rfl (H.sub (.cons_cons _ (.cons _ (List.Sublist.refl _)))) ?_
              refine d_take (i := 8) rfl (by kernel_rfl) (fun _ _ _ h => h) (H.sub (.cons_cons _ (.cons _ (List.Sublist.refl _)))) (fun _ _ => r_xor rfl rfl (show _ = ((z.toNat : Nat) : Int) by rw [hz]; exact xor_u8 _ hc0 hc1)) rfl ?_
              refine d_take (i := 11) rfl (by kernel_rfl) (fun _ _ _ h => h) (H.sub (.cons_cons _ (.cons _ (List.Sublist.refl _)))) (fun _ _ => r_indexAddrA Tryd.runUnderlying43 Tryd.sizeOf5 rfl rfl (by omega) (by omega)) rfl ?_
              refine d_all1 (i := 12) (by kernel_rfl) ?_
              refine b_st rfl go_none (m_store1 H 1 Tryd.sizeOf5 rfl rfl rfl rfl (by rw [List.length_append, hsC_length]; omega) (hs_store z hkl htl (by omega))) (L' := (_ :: _ :: _)) rfl rfl (fun _ H => (H.sub (.cons_cons _ (.cons _ (List.Sublist.refl _))))) ?_
              intro w H
              refine d_done (l' := [_, _, _, _, _, _, _, _, _, _, _, _, _, _, _, _, _, _, _, _, _, _, _, _, _, _, _, _, _, _, _, _, _, _, _, _, _, _, _, _, _, _, _, _, _, _, _, _, _, _, _, _, _, _, _, _, _, _, _, _, _, _, _, _, _, _, _, _, _, _, _, _, _, _, _, _, _, _, _, _, _, _, _, _, _, _, _, _, _, _, _, _, _, _, _, _, _, _, _, _, _, _, _, _, _, _, _, _, _, _, _, _, _, _, _]) (by kernel_rfl) rfl ?_
              refine x_thenNormal ?_
              refine c_rseq (n := 115) ⟨rfl, rfl⟩ ?_
              refine s_val (r_move rfl) ?_
              refine s_val (r_move rfl) ?_
              have hrt : HRow w (some ⟨bs, 0, none⟩) (spoil xs k t z) := fun _ => ⟨bs, 0, [], sp, _, _, rfl, H.at 1 rfl, rfl⟩
              refine s_call (r_call Tryd.call15 (ec rfl (ec rfl en))) (same_yes _ _ _ _ xs.length xs.length (spoil xs k t z) hsl.symm hsl.symm (by omega) _ (hNl.hrowM H (fun p hp => List.mem_cons_of_mem _ (List.mem_cons_of_mem _ hp))) hrt) ?_
              rintro v w ⟨rfl, HC⟩
              replace H := H.quiet HC
              refine s_val (r_assign rfl) ?_
              refine c_nil (l' := [_, _, _, _, _, _, _, _, _, _, _, _, _, _, _, _, _, _, _, _, _, _, _, _, _, _, _, _, _, _, _, _, _, _, _, _, _, _, _, _, _, _, _, _, _, _, _, _, _, _, _, _, _, _, _, _, _, _, _, _, _, _, _, _, _, _, _, _, _, _, _, _, _, _, _, _, _, _, _, _, _, _, _, _, _, _, _, _, _, _, _, _, _, _, _, _, _, _, _, _, _, _, _, _, _, _, _, _, _, _, _, _, _, _, _]) rfl ?_
              refine wp_ret ?_
              refine e_ret (res1 rfl rfl) ⟨_, rfl, ?_⟩
              exact ⟨rfl, H.sub (List.nil_sublist _)⟩

end Go.Proofs.YtblphhclfloodaaDoor
