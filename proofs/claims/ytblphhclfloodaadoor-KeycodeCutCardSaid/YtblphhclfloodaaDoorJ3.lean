import Derived.Test.YtblphhclfloodaaDoorJ2
import Derived.Test.YtblphhclfloodaaDoorT4
namespace Go.Proofs.YtblphhclfloodaaDoor
open Go Go.Er

set_option maxHeartbeats 4000000 in
theorem cut_law (seed : Key) (a : Option Addr) (cap : Nat) (ns : List Int) (hu : U64 ns) (q : Int) (hq0 : 0 ≤ q) (hq1 : q < 65536) (am : Option Addr) (capm : Nat) (ms : List UInt8) (w0 : World) (hr : URow w0 a ns) (hrm : BRow w0 am ms) (hT : TabH w0) :
    Calls Tryd.prog 5 #[.agg (kC seed).toArray, .slice a ns.length cap, .int .u16 q, .slice am ms.length capm] w0 fun e w => ∃ v, e = .returned v ∧ (v = .bool true ∧ St w0 [] w []) := by
  have H := St.refl w0
  refine c_enter (args := [.agg (kC seed).toArray, .slice a ns.length cap, .int .u16 q, .slice am ms.length capm]) (l := [.agg (kC seed).toArray, .slice a ns.length cap, .int .u16 q, .slice am ms.length capm, undef, undef, undef, undef, undef, undef, undef, undef, undef, undef, undef, undef, undef, undef, undef, undef, undef, undef, undef, undef, undef, undef, undef, undef, undef, undef, undef, undef, undef, undef, undef, undef, undef, undef, undef, undef, undef, undef, undef, undef, undef, undef, undef, undef, undef, undef, undef, undef, undef, undef, undef, undef, undef, undef, undef, undef, undef, undef, undef, undef, undef, undef, undef, undef, undef, undef, undef, undef, undef, undef, undef, undef, undef, undef, undef, undef, undef, undef, undef, undef, undef, undef, undef, undef, undef, undef, undef, undef, undef, undef, undef, undef]) Tryd.func5 Tryd.ntmps5 rfl rfl ?_
  refine c_rseq (n := 96) ⟨rfl, rfl⟩ ?_
  refine s_new (m_box (cs := (kC seed)) H rfl rfl) ?_
  intro w b4 H
  refine s_val (r_assign rfl) ?_
  refine c_nil (l' := [_, _, _, _, _, _, _, _, _, _, _, _, _, _, _, _, _, _, _, _, _, _, _, _, _, _, _, _, _, _, _, _, _, _, _, _, _, _, _, _, _, _, _, _, _, _, _, _, _, _, _, _, _, _, _, _, _, _, _, _, _, _, _, _, _, _, _, _, _, _, _, _, _, _, _, _, _, _, _, _, _, _, _, _, _, _, _, _, _, _, _, _, _, _, _, _]) rfl ?_
  refine c_seq ?_
  refine c_rseq (n := 96) ⟨rfl, rfl⟩ ?_
  refine s_call (r_call Tryd.call11 en) (awake_spec _ (hT.st H)) ?_
  rintro v w ⟨rfl, HC⟩
  replace H := H.quiet HC
  refine s_val (r_not rfl) ?_
  refine c_nil (l' := [_, _, _, _, _, _, _, _, _, _, _, _, _, _, _, _, _, _, _, _, _, _, _, _, _, _, _, _, _, _, _, _, _, _, _, _, _, _, _, _, _, _, _, _, _, _, _, _, _, _, _, _, _, _, _, _, _, _, _, _, _, _, _, _, _, _, _, _, _, _, _, _, _, _, _, _, _, _, _, _, _, _, _, _, _, _, _, _, _, _, _, _, _, _, _, _]) rfl ?_
  refine c_iff rfl ?_
  refine wp_skip ?_
  refine x_thenNormal ?_
  refine c_seq ?_
  refine c_rseq (n := 96) ⟨rfl, rfl⟩ ?_
  refine s_val (r_move rfl) ?_
  refine s_val (r_lens Tryd.runUnderlying44 (ec rfl en)) ?_
  refine s_test (r_gtr rfl rfl) (fun h22 => ?_) (fun h22 => ?_)
  · skip
    refine s_val (r_move rfl) ?_
    refine g_no rfl rfl (by decide) ?_
    refine g_no rfl rfl (by decide) ?_
    refine g_no rfl rfl (by decide) ?_
    refine s_val (r_pickt rfl rfl) ?_
    refine c_nil (l' := [_, _, _, _, _, _, _, _, _, _, _, _, _, _, _, _, _, _, _, _, _, _, _, _, _, _, _, _, _, _, _, _, _, _, _, _, _, _, _, _, _, _, _, _, _, _, _, _, _, _, _, _, _, _, _, _, _, _, _, _, _, _, _, _, _, _, _, _, _, _, _, _, _, _, _, _, _, _, _, _, _, _, _, _, _, _, _, _, _, _, _, _, _, _, _, _]) rfl ?_
    refine c_ift rfl ?_
    refine c_rseq (n := 96) ⟨rfl, rfl⟩ ?_
    refine s_val (r_assign rfl) ?_
    refine c_nil (l' := [_, _, _, _, _, _, _, _, _, _, _, _, _, _, _, _, _, _, _, _, _, _, _, _, _, _, _, _, _, _, _, _, _, _, _, _, _, _, _, _, _, _, _, _, _, _, _, _, _, _, _, _, _, _, _, _, _, _, _, _, _, _, _, _, _, _, _, _, _, _, _, _, _, _, _, _, _, _, _, _, _, _, _, _, _, _, _, _, _, _, _, _, _, _, _, _]) rfl ?_
    refine wp_ret (x_thenRet ?_)
    refine e_ret (res1 rfl rfl) ⟨_, rfl, ?_⟩
    exact ⟨rfl, H.sub (List.nil_sublist _)⟩
  · skip
    refine s_val (r_move rfl) ?_
    refine g_yes rfl rfl ?_
    refine s_val (r_move rfl) ?_
    refine g_yes rfl rfl ?_
    refine s_val (r_lens Tryd.runUnderlying24 (ec rfl en)) ?_
    refine g_yes rfl rfl ?_
    refine s_val (r_gtr rfl rfl) ?_
    refine s_val (r_pickf rfl rfl) ?_
    refine c_nil (l' := [_, _, _, _, _, _, _, _, _, _, _, _, _, _, _, _, _, _, _, _, _, _, _, _, _, _, _, _, _, _, _, _, _, _, _, _, _, _, _, _, _, _, _, _, _, _, _, _, _, _, _, _, _, _, _, _, _, _, _, _, _, _, _, _, _, _, _, _, _, _, _, _, _, _, _, _, _, _, _, _, _, _, _, _, _, _, _, _, _, _, _, _, _, _, _, _]) rfl ?_
    refine c_if rfl (fun h27 => ?_) (fun h27 => ?_)
    · skip
      skip
      refine c_rseq (n := 96) ⟨rfl, rfl⟩ ?_
      refine s_val (r_assign rfl) ?_
      refine c_nil (l' := [_, _, _, _, _, _, _, _, _, _, _, _, _, _, _, _, _, _, _, _, _, _, _, _, _, _, _, _, _, _, _, _, _, _, _, _, _, _, _, _, _, _, _, _, _, _, _, _, _, _, _, _, _, _, _, _, _, _, _, _, _, _, _, _, _, _, _, _, _, _, _, _, _, _, _, _, _, _, _, _, _, _, _, _, _, _, _, _, _, _, _, _, _, _, _, _]) rfl ?_
      refine wp_ret (x_thenRet ?_)
      refine e_ret (res1 rfl rfl) ⟨_, rfl, ?_⟩
      exact ⟨rfl, H.sub (List.nil_sublist _)⟩
    · skip
      skip
      refine wp_skip ?_
      refine x_thenNormal ?_
      refine c_rseq (n := 96) ⟨rfl, rfl⟩ ?_
      refine s_val (r_buildS Tryd.runUnderlying50 Tryd.zeroValue50 places50 pn rfl) ?_
      refine s_val (r_makeIface Tryd.runUnderlying50 (fun _ h => nomatch h) rfl) ?_
      refine s_val (r_loadn Tryd.isAgg43 Tryd.sizeOf43 rfl (H.at 0 rfl) (by first | exact (kC_td _) | exact (hC_td _) | exact (hC_seed _)) (by first | exact (kC_length _) | exact (hC_length _) | exact rfl)) ?_
      refine s_call (r_call Tryd.call18 (ec rfl (ec rfl en))) (new_spec _ _ litL litR (splits_lit _) _) ?_
      rintro v w ⟨bt, N, rfl, hT0, HC⟩
      obtain ⟨ci, hci, hTr⟩ : ∃ ci, SplitsBy Tryd.prog ci litL litR ∧ TreeN 77 55 bt ci [root seed] N := ⟨_, splits_lit _, hT0⟩
      replace H : St w0 [] _ (_ :: N) := (H.call0 HC).perm (List.perm_append_comm (l₁ := [_]))
      refine s_val (r_assign rfl) ?_
      refine c_nil (l' := [_, _, _, _, _, _, _, _, _, _, _, _, _, _, _, _, _, _, _, _, _, _, _, _, _, _, _, _, _, _, _, _, _, _, _, _, _, _, _, _, _, _, _, _, _, _, _, _, _, _, _, _, _, _, _, _, _, _, _, _, _, _, _, _, _, _, _, _, _, _, _, _, _, _, _, _, _, _, _, _, _, _, _, _, _, _, _, _, _, _, _, _, _, _, _, _]) rfl ?_
      refine c_seq ?_
      refine c_rseq (n := 96) ⟨rfl, rfl⟩ ?_
      refine s_val (r_move rfl) ?_
      refine s_val (r_lens Tryd.runUnderlying44 (ec rfl en)) ?_
      refine s_val (r_move rfl) ?_
      refine c_nil (l' := [_, _, _, _, _, _, _, _, _, _, _, _, _, _, _, _, _, _, _, _, _, _, _, _, _, _, _, _, _, _, _, _, _, _, _, _, _, _, _, _, _, _, _, _, _, _, _, _, _, _, _, _, _, _, _, _, _, _, _, _, _, _, _, _, _, _, _, _, _, _, _, _, _, _, _, _, _, _, _, _, _, _, _, _, _, _, _, _, _, _, _, _, _, _, _, _]) rfl ?_
      refine wp_block ?_
      refine c_loop (fun (l0 : List Value) (i : Nat) (l : List Value) (w : World) => ∃ (u11 u35 u36 u37 u38 u39 u40 u41 u42 : Value) (N : List (Nat × Obj)) (la : List Int) (xs : List Held), l = ovr l0 [N_, N_, N_, N_, N_, N_, N_, N_, N_, N_, N_, Y_ u11, N_, N_, N_, N_, N_, N_, N_, N_, N_, N_, N_, N_, N_, N_, N_, N_, N_, N_, N_, N_, N_, N_, Y_ (.int .i64 i), Y_ u35, Y_ u36, Y_ u37, Y_ u38, Y_ u39, Y_ u40, Y_ u41, Y_ u42] ∧ i ≤ ns.length ∧ xs = tree0 litL litR seed la ∧ TreeN 77 55 bt ci xs N ∧ xs.length ≤ 1 + 17 * i ∧ St w0 [] w ((b4, .cells (kC seed).toArray 43 (0, 0)) :: N)) (fun (i : Nat) => ns.length - i) 0 ⟨_, _, _, _, _, _, _, _, _, N, [], [root seed], rfl, by omega, tree0_nil.symm, hTr, by show 1 ≤ _; omega, H⟩ ?_
      intro i l w ⟨u11, u35, u36, u37, u38, u39, u40, u41, u42, N, la, xs, hl, hi, hxs, hTr, hlx, H⟩
      obtain rfl := hl.trans (rfl : _ = [_, _, _, _, _, _, _, _, _, _, _, _, _, _, _, _, _, _, _, _, _, _, _, _, _, _, _, _, _, _, _, _, _, _, _, _, _, _, _, _, _, _, _, _, _, _, _, _, _, _, _, _, _, _, _, _, _, _, _, _, _, _, _, _, _, _, _, _, _, _, _, _, _, _, _, _, _, _, _, _, _, _, _, _, _, _, _, _, _, _, _, _, _, _, _, _])
      clear hl
      have hvx : Valid xs := by rw [hxs]; exact tree0_valid la
      refine c_rseq (n := 96) ⟨rfl, rfl⟩ ?_
      refine s_val (r_lss rfl rfl) ?_
      refine c_nil (l' := [_, _, _, _, _, _, _, _, _, _, _, _, _, _, _, _, _, _, _, _, _, _, _, _, _, _, _, _, _, _, _, _, _, _, _, _, _, _, _, _, _, _, _, _, _, _, _, _, _, _, _, _, _, _, _, _, _, _, _, _, _, _, _, _, _, _, _, _, _, _, _, _, _, _, _, _, _, _, _, _, _, _, _, _, _, _, _, _, _, _, _, _, _, _, _, _]) rfl ?_
      refine c_seq ?_
      refine c_if rfl (fun h35 => ?_) (fun h35 => ?_)
      · skip
        obtain ⟨bu, off, pre, post, T, fz, rfl, hbu, hpu⟩ := hr (by omega)
        obtain ⟨hn0, hn1⟩ := hu.get (i := i) (by omega)
        have hlp := len_tree (sl := litL) (sr := litR) (n := (ns.getD i 0 % 131072)) hvx
        refine wp_skip ?_
        refine x_thenNormal ?_
        refine c_seq ?_
        refine wp_block ?_
        refine c_rseq (n := 96) ⟨rfl, rfl⟩ ?_
        refine s_val (r_indexAddrS Tryd.runUnderlying44 Tryd.sizeOf38 rfl rfl (by omega) (by omega)) ?_
        refine s_val (r_load1 Tryd.isAgg38 rfl (H.rd0 hbu) (u_get pre ns post i hpu (by omega) (by omega))) ?_
        refine s_val (r_assign rfl) ?_
        refine c_nil (l' := [_, _, _, _, _, _, _, _, _, _, _, _, _, _, _, _, _, _, _, _, _, _, _, _, _, _, _, _, _, _, _, _, _, _, _, _, _, _, _, _, _, _, _, _, _, _, _, _, _, _, _, _, _, _, _, _, _, _, _, _, _, _, _, _, _, _, _, _, _, _, _, _, _, _, _, _, _, _, _, _, _, _, _, _, _, _, _, _, _, _, _, _, _, _, _, _]) rfl ?_
        refine c_region (n := 96) ⟨rfl, rfl⟩ ?_
        refine s_val (r_move rfl) ?_
        refine s_val (r_move rfl) ?_
        refine s_val (r_rem rfl rfl (by omega) (Int.tmod_eq_emod_of_nonneg (by omega))) ?_
        refine s_call (r_call Tryd.call19 (ec rfl (ec rfl en))) (punc_t _ _ xs (ns.getD i 0 % 131072) N litL litR hci (by omega) hvx (by omega) (by omega) _ hTr (H.ownsM (.cons _ (List.Sublist.refl _)))) ?_
        rintro v w ⟨rfl, N2, hT2, HC⟩
        replace H : St w0 [] _ (_ :: N2) := St.callr (L := [_]) H HC
        refine c_nil0 (l' := [_, _, _, _, _, _, _, _, _, _, _, _, _, _, _, _, _, _, _, _, _, _, _, _, _, _, _, _, _, _, _, _, _, _, _, _, _, _, _, _, _, _, _, _, _, _, _, _, _, _, _, _, _, _, _, _, _, _, _, _, _, _, _, _, _, _, _, _, _, _, _, _, _, _, _, _, _, _, _, _, _, _, _, _, _, _, _, _, _, _, _, _, _, _, _, _]) rfl ?_
        refine x_blockNormal ?_
        refine x_thenNormal ?_
        refine c_region (n := 96) ⟨rfl, rfl⟩ ?_
        refine s_val (r_add rfl rfl (w_i64 (by omega) (by omega))) ?_
        refine s_val (r_move rfl) ?_
        refine c_nil0 (l' := [_, _, _, _, _, _, _, _, _, _, _, _, _, _, _, _, _, _, _, _, _, _, _, _, _, _, _, _, _, _, _, _, _, _, _, _, _, _, _, _, _, _, _, _, _, _, _, _, _, _, _, _, _, _, _, _, _, _, _, _, _, _, _, _, _, _, _, _, _, _, _, _, _, _, _, _, _, _, _, _, _, _, _, _, _, _, _, _, _, _, _, _, _, _, _, _]) rfl ?_
        exact ⟨i + 1, _, rfl, ⟨_, _, _, _, _, _, _, _, _, N2, _, (punc litL litR xs (ns.getD i 0 % 131072)), rfl, by omega, by rw [hxs, tree0_punc], hT2, by omega, H⟩, by omega⟩
      · skip
        obtain rfl : i = ns.length := by omega
        refine wp_exit (x_thenExit (x_thenExit (x_blockHit ?_)))
        refine x_thenNormal ?_
        refine c_rseq (n := 96) ⟨rfl, rfl⟩ ?_
        refine s_val (r_move rfl) ?_
        refine s_call (r_call Tryd.call20 (ec rfl en)) (held_spec _ _ xs N (by omega) hvx _ hTr (H.ownsM (.cons _ (List.Sublist.refl _)))) ?_
        rintro v w ⟨ah, caph, Nh, rfl, hNh, HC⟩
        replace H := H.call0 HC
        refine s_call (r_call Tryd.call12 (ec rfl en)) (enc_ok _ _ xs (by omega) hvx.inR _ (hNh.hrowM H (fun p hp => List.mem_append_left _ hp)) (hT.st H) hvx) ?_
        rintro v w ⟨ab, capb, Nb, rfl, hNb, HC⟩
        replace H : St w0 [] _ Nb := (H.call0 HC).sub (List.sublist_append_left Nb _)
        have hel := encB_length xs
        have hcb := hNb.2.1
        refine s_val (r_move rfl) ?_
        refine s_val (r_extract rfl rfl) ?_
        refine s_val (r_extract rfl rfl) ?_
        refine s_val (r_assign rfl) ?_
        refine s_val (r_assign rfl) ?_
        refine c_nil (l' := [_, _, _, _, _, _, _, _, _, _, _, _, _, _, _, _, _, _, _, _, _, _, _, _, _, _, _, _, _, _, _, _, _, _, _, _, _, _, _, _, _, _, _, _, _, _, _, _, _, _, _, _, _, _, _, _, _, _, _, _, _, _, _, _, _, _, _, _, _, _, _, _, _, _, _, _, _, _, _, _, _, _, _, _, _, _, _, _, _, _, _, _, _, _, _, _]) rfl ?_
        refine c_seq ?_
        refine c_rseq (n := 96) ⟨rfl, rfl⟩ ?_
        refine s_val (r_move rfl) ?_
        refine s_val (r_neq rfl rfl) ?_
        refine s_val (r_move rfl) ?_
        refine g_yes rfl rfl ?_
        refine s_val (r_move rfl) ?_
        refine g_yes rfl rfl ?_
        refine s_val (r_lens Tryd.runUnderlying24 (ec rfl en)) ?_
        refine g_yes rfl rfl ?_
        refine s_val (r_lss rfl rfl) ?_
        refine s_val (r_pickf rfl rfl) ?_
        refine c_nil (l' := [_, _, _, _, _, _, _, _, _, _, _, _, _, _, _, _, _, _, _, _, _, _, _, _, _, _, _, _, _, _, _, _, _, _, _, _, _, _, _, _, _, _, _, _, _, _, _, _, _, _, _, _, _, _, _, _, _, _, _, _, _, _, _, _, _, _, _, _, _, _, _, _, _, _, _, _, _, _, _, _, _, _, _, _, _, _, _, _, _, _, _, _, _, _, _, _]) rfl ?_
        refine c_if rfl (fun h55 => ?_) (fun h55 => ?_)
        · skip
          exfalso; omega
        · skip
          refine wp_skip ?_
          refine x_thenNormal ?_
          refine c_rseq (n := 96) ⟨rfl, rfl⟩ ?_
          refine s_val (r_move rfl) ?_
          refine s_val (r_move rfl) ?_
          refine s_val (r_conv Tryd.runUnderlying45 Tryd.runUnderlying3 rfl (w_i64 (by omega) (by omega))) ?_
          refine s_val (r_move rfl) ?_
          refine s_val (r_lens Tryd.runUnderlying24 (ec rfl en)) ?_
          obtain ⟨k, hk⟩ : ∃ k : Nat, (k : Int) = q % ((encB xs).length : Int) := ⟨_, Int.toNat_of_nonneg (Int.emod_nonneg _ (by omega))⟩
          have hkl : k < (encB xs).length := by have := Int.emod_lt_of_pos q (by omega : (0 : Int) < ((encB xs).length : Int)); omega
          obtain ⟨cs, hcs⟩ : ∃ cs, cs = (encB xs).take k := ⟨_, rfl⟩
          obtain rfl : k = cs.length := by rw [hcs, List.length_take]; omega
          obtain ⟨bb, spb, rfl, _, rfl, _⟩ := hNb.some (by omega)
          have hrc : BRow w (some ⟨bb, 0, none⟩) cs := by
            have h1 := (hNb.browM H (fun p hp => hp)).cut (lo := 0) (n := cs.length) (cap := capb) (by omega) (by omega)
            rw [List.drop_zero, ← hcs, cutA_zero] at h1
            exact h1
          refine s_val (r_rem rfl rfl (by omega) ((Int.tmod_eq_emod_of_nonneg (by omega)).trans hk.symm)) ?_
          refine s_val (r_sliceHe (hi := cs.length) Tryd.runUnderlying24 Tryd.sizeOf5 rfl rfl rfl (by omega) cutA_zero rfl) ?_
          refine s_call (r_call Tryd.call16 (ec rfl en)) (dec_no _ _ cs (by omega) (by omega) _ hrc (hT.st H) (cut_no (by omega) hcs hkl)) ?_
          rintro v w ⟨rfl, HC⟩
          replace H := H.quiet HC
          refine s_val (r_move rfl) ?_
          refine s_val (r_extract rfl rfl) ?_
          refine s_val (r_extract rfl rfl) ?_
          refine s_val (r_assign rfl) ?_
          refine s_val (r_assign rfl) ?_
          refine c_nil (l' := [_, _, _, _, _, _, _, _, _, _, _, _, _, _, _, _, _, _, _, _, _, _, _, _, _, _, _, _, _, _, _, _, _, _, _, _, _, _, _, _, _, _, _, _, _, _, _, _, _, _, _, _, _, _, _, _, _, _, _, _, _, _, _, _, _, _, _, _, _, _, _, _, _, _, _, _, _, _, _, _, _, _, _, _, _, _, _, _, _, _, _, _, _, _, _, _]) rfl ?_
          refine c_rseq (n := 96) ⟨rfl, rfl⟩ ?_
          refine s_new (m_bslice0 H Tryd.runUnderlying24 Tryd.sizeOf5) ?_
          intro w b68 H
          refine s_val (r_move rfl) ?_
          refine s_any (m_append_lit H Tryd.runUnderlying24 Tryd.runUnderlying24 (fun _ h => nomatch h) Tryd.sizeOf5 Tryd.zeroValue5 rfl Tryd.typeInfo5 (by rw [bytes5]; omega) (by rw [bytes5]; omega) (ec rfl (ec rfl en)) ((hNb.browM H (fun p hp => List.mem_cons_of_mem _ hp)).src _)) ?_
          rintro v w ⟨ao, co, No, rfl, hNo, H⟩
          replace H : St w0 [] _ No := H.sub (List.sublist_append_left No _)
          refine s_val (r_move rfl) ?_
          refine s_any (m_append_row0 (L1 := []) (N := No) H hNo Tryd.runUnderlying24 Tryd.runUnderlying24 (fun _ h => nomatch h) Tryd.sizeOf5 Tryd.zeroValue5 rfl Tryd.typeInfo5 (by rw [bytes5]; omega) (by rw [bytes5]; omega) (ec rfl (ec rfl en)) ((hrm.st (H.sub (List.nil_sublist _))).src _)) ?_
          rintro v w ⟨aa, ca, Na, rfl, hNa, H⟩
          rw [← bC_append, ← List.length_append] at hNa
          rw [← List.length_append]
          refine s_call (r_call Tryd.call16 (ec rfl en)) (dec_spec _ _ (encB xs ++ ms) (by rw [List.length_append]; omega) hNa.2.1 _ (hNa.browM H (fun p hp => hp)) (hT.st H)) ?_
          rintro v w (⟨n, hS, hm, hV, a9, c9, N9, rfl, hN9, HC⟩ | ⟨hn, rfl, HC⟩)
          · skip
            replace H := H.call0 HC
            have hmz := more_shape (by omega) hS
            rw [List.length_append] at hm
            refine s_val (r_move rfl) ?_
            refine s_val (r_extract rfl rfl) ?_
            refine s_val (r_extract rfl rfl) ?_
            refine s_val (r_assign rfl) ?_
            refine s_val (r_assign rfl) ?_
            refine c_nil (l' := [_, _, _, _, _, _, _, _, _, _, _, _, _, _, _, _, _, _, _, _, _, _, _, _, _, _, _, _, _, _, _, _, _, _, _, _, _, _, _, _, _, _, _, _, _, _, _, _, _, _, _, _, _, _, _, _, _, _, _, _, _, _, _, _, _, _, _, _, _, _, _, _, _, _, _, _, _, _, _, _, _, _, _, _, _, _, _, _, _, _, _, _, _, _, _, _]) rfl ?_
            refine c_rseq (n := 96) ⟨rfl, rfl⟩ ?_
            refine s_val (r_move rfl) ?_
            refine s_val (r_eql rfl rfl) ?_
            refine s_val (r_move rfl) ?_
            refine g_yes rfl rfl ?_
            refine s_val (r_move rfl) ?_
            refine g_yes rfl rfl ?_
            refine s_val (r_lens Tryd.runUnderlying22 (ec rfl en)) ?_
            refine g_yes rfl rfl ?_
            refine s_val (r_eql rfl rfl) ?_
            refine s_val (r_pickt rfl rfl) ?_
            refine s_val (r_move rfl) ?_
            refine g_yes rfl rfl ?_
            refine s_val (r_move rfl) ?_
            refine g_yes rfl rfl ?_
            refine s_test (r_eql rfl rfl) (fun h85 => ?_) (fun h85 => ?_)
            · skip
              refine g_yes rfl rfl ?_
              refine s_val (r_move rfl) ?_
              refine g_yes rfl rfl ?_
              refine s_val (r_move rfl) ?_
              refine g_yes rfl rfl ?_
              refine s_val (r_lens Tryd.runUnderlying22 (ec rfl en)) ?_
              refine g_yes rfl rfl ?_
              refine s_val (r_eql rfl rfl) ?_
              refine g_yes rfl rfl ?_
              refine s_val (r_pickt rfl rfl) ?_
              refine g_yes rfl rfl ?_
              refine s_val (r_move rfl) ?_
              refine g_yes rfl rfl ?_
              refine s_val (r_lens Tryd.runUnderlying24 (ec rfl en)) ?_
              refine g_yes rfl rfl ?_
              refine s_val (r_gtr rfl rfl) ?_
              refine g_yes rfl rfl ?_
              refine s_val (r_eqlb Tryd.runUnderlying4 rfl rfl) ?_
              refine s_val (r_pickt rfl rfl) ?_
              refine s_val (r_assign rfl) ?_
              refine c_nil (l' := [_, _, _, _, _, _, _, _, _, _, _, _, _, _, _, _, _, _, _, _, _, _, _, _, _, _, _, _, _, _, _, _, _, _, _, _, _, _, _, _, _, _, _, _, _, _, _, _, _, _, _, _, _, _, _, _, _, _, _, _, _, _, _, _, _, _, _, _, _, _, _, _, _, _, _, _, _, _, _, _, _, _, _, _, _, _, _, _, _, _, _, _, _, _, _, _]) rfl ?_
              refine wp_ret ?_
              refine e_ret (res1 rfl rfl) ⟨_, rfl, ?_⟩
              exact absurd h85 (by decide)
            · skip
              refine g_yes rfl rfl ?_
              refine s_val (r_move rfl) ?_
              refine g_no rfl rfl (by decide) ?_
              refine g_no rfl rfl (by decide) ?_
              refine g_no rfl rfl (by decide) ?_
              refine g_yes rfl rfl ?_
              refine s_val (r_pickf rfl rfl) ?_
              refine g_yes rfl rfl ?_
              refine s_val (r_move rfl) ?_
              refine g_yes rfl rfl ?_
              refine s_val (r_lens Tryd.runUnderlying24 (ec rfl en)) ?_
              refine g_yes rfl rfl ?_
              refine s_val (r_gtr rfl rfl) ?_
              refine g_yes rfl rfl ?_
              refine s_val (r_eqlb Tryd.runUnderlying4 rfl rfl) ?_
              refine s_val (r_pickt rfl rfl) ?_
              refine s_val (r_assign rfl) ?_
              refine c_nil (l' := [_, _, _, _, _, _, _, _, _, _, _, _, _, _, _, _, _, _, _, _, _, _, _, _, _, _, _, _, _, _, _, _, _, _, _, _, _, _, _, _, _, _, _, _, _, _, _, _, _, _, _, _, _, _, _, _, _, _, _, _, _, _, _, _, _, _, _, _, _, _, _, _, _, _, _, _, _, _, _, _, _, _, _, _, _, _, _, _, _, _, _, _, _, _, _, _]) rfl ?_
              refine wp_ret ?_
              refine e_ret (res1 rfl rfl) ⟨_, rfl, ?_⟩
              exact ⟨congrArg Value.bool (by simp [hmz]), H.sub (List.nil_sublist _)⟩
          · skip
            replace H := H.quiet HC
            have hmz := more_ok (by omega) hvx hn
            refine s_val (r_move rfl) ?_
            refine s_val (r_extract rfl rfl) ?_
            refine s_val (r_extract rfl rfl) ?_
            refine s_val (r_assign rfl) ?_
            refine s_val (r_assign rfl) ?_
            refine c_nil (l' := [_, _, _, _, _, _, _, _, _, _, _, _, _, _, _, _, _, _, _, _, _, _, _, _, _, _, _, _, _, _, _, _, _, _, _, _, _, _, _, _, _, _, _, _, _, _, _, _, _, _, _, _, _, _, _, _, _, _, _, _, _, _, _, _, _, _, _, _, _, _, _, _, _, _, _, _, _, _, _, _, _, _, _, _, _, _, _, _, _, _, _, _, _, _, _, _]) rfl ?_
            refine c_rseq (n := 96) ⟨rfl, rfl⟩ ?_
            refine s_val (r_move rfl) ?_
            refine s_val (r_eql rfl rfl) ?_
            refine s_val (r_move rfl) ?_
            refine g_yes rfl rfl ?_
            refine s_val (r_move rfl) ?_
            refine g_yes rfl rfl ?_
            refine s_val (r_lens Tryd.runUnderlying22 (ec rfl en)) ?_
            refine g_yes rfl rfl ?_
            refine s_val (r_eql rfl rfl) ?_
            refine s_val (r_pickt rfl rfl) ?_
            refine s_val (r_move rfl) ?_
            refine g_yes rfl rfl ?_
            refine s_val (r_move rfl) ?_
            refine g_yes rfl rfl ?_
            refine s_test (r_eql rfl rfl) (fun h85 => ?_) (fun h85 => ?_)
            · skip
              refine g_yes rfl rfl ?_
              refine s_val (r_move rfl) ?_
              refine g_yes rfl rfl ?_
              refine s_val (r_move rfl) ?_
              refine g_yes rfl rfl ?_
              refine s_val (r_lens Tryd.runUnderlying22 (ec rfl en)) ?_
              refine g_yes rfl rfl ?_
              refine s_val (r_eql rfl rfl) ?_
              refine g_yes rfl rfl ?_
              refine s_val (r_pickt rfl rfl) ?_
              refine g_yes rfl rfl ?_
              refine s_val (r_move rfl) ?_
              refine g_yes rfl rfl ?_
              refine s_val (r_lens Tryd.runUnderlying24 (ec rfl en)) ?_
              refine g_yes rfl rfl ?_
              refine s_val (r_gtr rfl rfl) ?_
              refine g_yes rfl rfl ?_
              refine s_val (r_eqlb Tryd.runUnderlying4 rfl rfl) ?_
              refine s_val (r_pickt rfl rfl) ?_
              refine s_val (r_assign rfl) ?_
              refine c_nil (l' := [_, _, _, _, _, _, _, _, _, _, _, _, _, _, _, _, _, _, _, _, _, _, _, _, _, _, _, _, _, _, _, _, _, _, _, _, _, _, _, _, _, _, _, _, _, _, _, _, _, _, _, _, _, _, _, _, _, _, _, _, _, _, _, _, _, _, _, _, _, _, _, _, _, _, _, _, _, _, _, _, _, _, _, _, _, _, _, _, _, _, _, _, _, _, _, _]) rfl ?_
              refine wp_ret ?_
              refine e_ret (res1 rfl rfl) ⟨_, rfl, ?_⟩
              exact ⟨congrArg Value.bool (by simp [hmz]), H.sub (List.nil_sublist _)⟩
            · skip
              refine g_yes rfl rfl ?_
              refine s_val (r_move rfl) ?_
              refine g_no rfl rfl (by decide) ?_
              refine g_no rfl rfl (by decide) ?_
              refine g_no rfl rfl (by decide) ?_
              refine g_yes rfl rfl ?_
              refine s_val (r_pickf rfl rfl) ?_
              refine g_yes rfl rfl ?_
              refine s_val (r_move rfl) ?_
              refine g_yes rfl rfl ?_
              refine s_val (r_lens Tryd.runUnderlying24 (ec rfl en)) ?_
              refine g_yes rfl rfl ?_
              refine s_val (r_gtr rfl rfl) ?_
              refine g_yes rfl rfl ?_
              refine s_val (r_eqlb Tryd.runUnderlying4 rfl rfl) ?_
              refine s_val (r_pickt rfl rfl) ?_
              refine s_val (r_assign rfl) ?_
              refine c_nil (l' := [_, _, _, _, _, _, _, _, _, _, _, _, _, _, _, _, _, _, _, _, _, _, _, _, _, _, _, _, _, _, _, _, _, _, _, _, _, _, _, _, _, _, _, _, _, _, _, _, _, _, _, _, _, _, _, _, _, _, _, _, _, _, _, _, _, _, _, _, _, _, _, _, _, _, _, _, _, _, _, _, _, _, _, _, _, _, _, _, _, _, _, _, _, _, _, _]) rfl ?_
              refine wp_ret ?_
              refine e_ret (res1 rfl rfl) ⟨_, rfl, ?_⟩
              exact absurd rfl h85

end Go.Proofs.YtblphhclfloodaaDoor
