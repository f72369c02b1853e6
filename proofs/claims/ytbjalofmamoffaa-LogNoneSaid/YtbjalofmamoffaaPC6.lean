import Derived.Test.YtbjalofmamoffaaPC5
import Derived.Test.YtbjalofmamoffaaPV2
namespace Go.Proofs.Ytbjalofmamoffaa
open Go Go.Er

set_option maxHeartbeats 4000000 in
theorem awake_spec  (w0 : World) :
    Calls Try.prog 8 #[] w0 fun e w => ∃ v, e = .returned v ∧ (v = .bool true ∧ St w0 [] w []) := by
  have H := St.refl w0
  refine c_enter (args := []) (l := [undef, undef, undef, undef, undef, undef, undef, undef, undef, undef, undef, undef, undef, undef, undef, undef, undef, undef, undef, undef, undef, undef, undef, undef, undef, undef, undef, undef, undef, undef, undef, undef, undef, undef, undef, undef, undef, undef, undef, undef, undef, undef, undef, undef, undef, undef, undef, undef, undef, undef, undef, undef, undef, undef, undef, undef, undef, undef, undef, undef, undef, undef, undef, undef, undef, undef, undef, undef, undef, undef, undef, undef, undef, undef, undef, undef, undef, undef, undef, undef, undef, undef, undef, undef, undef, undef]) Try.func8 Try.ntmps8 rfl rfl ?_
  refine c_rseq (n := 86) ⟨rfl, rfl⟩ ?_
  refine s_val (r_assign rfl) ?_
  refine c_nil (l' := [_,_,_,_,_,_,_,_,_,_,_,_,_,_,_,_,_,_,_,_,_,_,_,_,_,_,_,_,_,_,_,_,_,_,_,_,_,_,_,_,_,_,_,_,_,_,_,_,_,_,_,_,_,_,_,_,_,_,_,_,_,_,_,_,_,_,_,_,_,_,_,_,_,_,_,_,_,_,_,_,_,_,_,_,_,_]) rfl ?_
  refine c_rseq (n := 86) ⟨rfl, rfl⟩ ?_
  refine s_call (r_call Try.call10 (ec rfl (ec rfl en))) (made_spec 1 1 (by decide) (by decide) (by decide) (by decide) _) ?_
  rintro v w ⟨bl, ba, bb, N, pp, pm, rfl, hL0, HC⟩
  have hL : LogN 150 51 89 72 ba bb bl (awL 0) 0 N := hL0
  replace H : St w0 [] w N := by have h := H.call0 HC; rwa [List.append_nil] at h
  refine s_val (r_move rfl) ?_
  refine s_val (r_extract rfl rfl) ?_
  refine s_val (r_extract rfl rfl) ?_
  refine s_new (m_alloc (cs := (rigC none none none none none 0 0)) H Try.zeroValue32 rfl) ?_
  intro w b1 H
  refine s_st (m_storen H 0 7 Try.sizeOf32 rfl rfl (by first | exact (kC_length _) | exact (hC_length _) | exact (shC_length _ _) | exact (wC_length _) | exact (sdC_length _ _) | exact (xrL_length _ _ _) | exact (xrC_length _ _ _ _ _ _ _) | exact (rigC_length _ _ _ _ _ _ _) | exact (doC_length _)) (by first | exact (kC_one _) | exact (hC_one _) | exact (shC_one _ _) | exact (elW.one _) | exact (sdC_one _ _) | exact (xrL_one _ _ _) | exact (xrC_one _ _ _ _ _ _ _) | exact (rigC_one _ _ _ _ _ _ _) | exact (elDo.one _)) rfl (by first | exact (by rw [kC_length]; omega) | exact (by rw [hC_length]; omega) | exact (by rw [wC_length]; omega) | exact (by show _ ≤ 5; omega) | exact (by show _ ≤ 7; omega) | exact (by show _ ≤ 3; omega)) rigC_sp) (L' := (_ :: _)) rfl ?_
  intro w H
  refine s_val (r_assign rfl) ?_
  refine c_nil (l' := [_,_,_,_,_,_,_,_,_,_,_,_,_,_,_,_,_,_,_,_,_,_,_,_,_,_,_,_,_,_,_,_,_,_,_,_,_,_,_,_,_,_,_,_,_,_,_,_,_,_,_,_,_,_,_,_,_,_,_,_,_,_,_,_,_,_,_,_,_,_,_,_,_,_,_,_,_,_,_,_,_,_,_,_,_,_]) rfl ?_
  refine c_seq ?_
  refine c_rseq (n := 86) ⟨rfl, rfl⟩ ?_
  refine s_val (r_move rfl) ?_
  refine s_val (r_eql rfl rfl) ?_
  refine c_nil (l' := [_,_,_,_,_,_,_,_,_,_,_,_,_,_,_,_,_,_,_,_,_,_,_,_,_,_,_,_,_,_,_,_,_,_,_,_,_,_,_,_,_,_,_,_,_,_,_,_,_,_,_,_,_,_,_,_,_,_,_,_,_,_,_,_,_,_,_,_,_,_,_,_,_,_,_,_,_,_,_,_,_,_,_,_,_,_]) rfl ?_
  refine c_if rfl (fun h15 => ?_) (fun h15 => ?_)
  · skip
    exfalso; omega
  · skip
    refine wp_skip ?_
    refine x_thenNormal ?_
    refine c_rseq (n := 86) ⟨rfl, rfl⟩ ?_
    refine s_val (r_assign rfl) ?_
    refine c_nil (l' := [_,_,_,_,_,_,_,_,_,_,_,_,_,_,_,_,_,_,_,_,_,_,_,_,_,_,_,_,_,_,_,_,_,_,_,_,_,_,_,_,_,_,_,_,_,_,_,_,_,_,_,_,_,_,_,_,_,_,_,_,_,_,_,_,_,_,_,_,_,_,_,_,_,_,_,_,_,_,_,_,_,_,_,_,_,_]) rfl ?_
    refine c_seq ?_
    refine c_rseq (n := 86) ⟨rfl, rfl⟩ ?_
    refine s_val (r_move rfl) ?_
    refine c_nil (l' := [_,_,_,_,_,_,_,_,_,_,_,_,_,_,_,_,_,_,_,_,_,_,_,_,_,_,_,_,_,_,_,_,_,_,_,_,_,_,_,_,_,_,_,_,_,_,_,_,_,_,_,_,_,_,_,_,_,_,_,_,_,_,_,_,_,_,_,_,_,_,_,_,_,_,_,_,_,_,_,_,_,_,_,_,_,_]) rfl ?_
    refine wp_block ?_
    refine c_loop (fun (l0 : List Value) (i : Nat) (l : List Value) (w : World) => ∃ (u0 u4 u5 u17 u18 u19 u20 u21 u22 u23 u24 u25 u26 u27 u28 u29 : Value) (N : List (Nat × Obj)), l = ovr l0 [Y_ u0, N_, N_, Y_ (.int .i64 (awA i)), Y_ u4, Y_ u5, N_, N_, N_, N_, N_, N_, N_, N_, N_, N_, Y_ (.int .i64 i), Y_ u17, Y_ u18, Y_ u19, Y_ u20, Y_ u21, Y_ u22, Y_ u23, Y_ u24, Y_ u25, Y_ u26, Y_ u27, Y_ u28, Y_ u29] ∧ i ≤ 3 ∧ LogN 150 51 89 72 ba bb bl (awL i) i N ∧ St w0 [] w ((b1, .cells (rigC pp (some ⟨ba, 0, none⟩) (some ⟨bb, 0, none⟩) pm (some ⟨bl, 0, none⟩) (3 + 1 % 4) (1 + 1 % 4)).toArray 32 (0, 0)) :: N)) (fun (i : Nat) => 3 - i) 0 ⟨_,_,_,_,_,_,_,_,_,_,_,_,_,_,_,_, N, rfl, by omega, hL, H⟩ ?_
    intro i l w ⟨u0, u4, u5, u17, u18, u19, u20, u21, u22, u23, u24, u25, u26, u27, u28, u29, N, hl, hi, hL, H⟩
    obtain rfl := hl.trans (rfl : _ = [_,_,_,_,_,_,_,_,_,_,_,_,_,_,_,_,_,_,_,_,_,_,_,_,_,_,_,_,_,_,_,_,_,_,_,_,_,_,_,_,_,_,_,_,_,_,_,_,_,_,_,_,_,_,_,_,_,_,_,_,_,_,_,_,_,_,_,_,_,_,_,_,_,_,_,_,_,_,_,_,_,_,_,_,_,_])
    clear hl
    refine c_rseq (n := 86) ⟨rfl, rfl⟩ ?_
    refine s_val (r_lss rfl rfl) ?_
    refine c_nil (l' := [_,_,_,_,_,_,_,_,_,_,_,_,_,_,_,_,_,_,_,_,_,_,_,_,_,_,_,_,_,_,_,_,_,_,_,_,_,_,_,_,_,_,_,_,_,_,_,_,_,_,_,_,_,_,_,_,_,_,_,_,_,_,_,_,_,_,_,_,_,_,_,_,_,_,_,_,_,_,_,_,_,_,_,_,_,_]) rfl ?_
    refine c_seq ?_
    refine c_if rfl (fun h17 => ?_) (fun h17 => ?_)
    · skip
      refine wp_skip ?_
      refine x_thenNormal ?_
      refine c_seq ?_
      refine wp_block ?_
      refine c_rseq (n := 86) ⟨rfl, rfl⟩ ?_
      refine s_val (r_fieldAddr (k := 4) Try.runUnderlying32 rfl Try.sizeOf28 (by decide) rfl rfl) ?_
      refine s_val (r_load1 Try.isAgg28 rfl (H.at 0 rfl) rfl) ?_
      refine s_new (m_bslice1 (vs := [.int .u8 97]) H Try.runUnderlying40 Try.sizeOf5 Try.zeroValue5 (by omega) (by omega) rfl rfl rfl) ?_
      intro w b21 H
      refine s_any (m_mark H (k := 0) rfl Try.runUnderlying40 Try.runUnderlying5 rfl) ?_
      rintro v w ⟨rfl, H⟩
      skip
      refine s_call (r_call Try.call15 (ec rfl (ec rfl en))) (append_spec bl (awL i) i N (by omega) (by have := aw_known (i := i) (by omega); omega) (some ⟨b21, 0, none⟩) 1 [97] _ (fun w2 L2 h2 _ => ⟨b21, 0, [], [], _,_, rfl, St.keepM (A := [_,_]) H h2 List.mem_cons_self, rfl⟩) hL (H.ownsM (.cons _ (.cons _ (List.Sublist.refl _))))) ?_
      rintro v w ⟨rfl, N2, hL2, HC⟩
      replace H : St w0 [] w (_ :: _ :: N2) := St.callr (L := [_,_]) H HC
      refine s_val (r_move rfl) ?_
      refine s_val (r_extract rfl rfl) ?_
      refine s_val (r_extract rfl rfl) ?_
      refine s_val (r_assign rfl) ?_
      refine s_val (r_assign rfl) ?_
      refine c_nil (l' := [_,_,_,_,_,_,_,_,_,_,_,_,_,_,_,_,_,_,_,_,_,_,_,_,_,_,_,_,_,_,_,_,_,_,_,_,_,_,_,_,_,_,_,_,_,_,_,_,_,_,_,_,_,_,_,_,_,_,_,_,_,_,_,_,_,_,_,_,_,_,_,_,_,_,_,_,_,_,_,_,_,_,_,_,_,_]) rfl ?_
      refine c_seq ?_
      refine c_rseq (n := 86) ⟨rfl, rfl⟩ ?_
      refine s_val (r_move rfl) ?_
      refine s_val (r_neq rfl rfl) ?_
      refine c_nil (l' := [_,_,_,_,_,_,_,_,_,_,_,_,_,_,_,_,_,_,_,_,_,_,_,_,_,_,_,_,_,_,_,_,_,_,_,_,_,_,_,_,_,_,_,_,_,_,_,_,_,_,_,_,_,_,_,_,_,_,_,_,_,_,_,_,_,_,_,_,_,_,_,_,_,_,_,_,_,_,_,_,_,_,_,_,_,_]) rfl ?_
      refine c_if rfl (fun h27 => ?_) (fun h27 => ?_)
      · skip
        exact absurd (aw_ok (by omega)) h27
      · skip
        refine wp_skip ?_
        refine x_thenNormal ?_
        refine c_region (n := 86) ⟨rfl, rfl⟩ ?_
        refine s_val (r_move rfl) ?_
        refine s_val (r_assign rfl) ?_
        refine c_nil0 (l' := [_,_,_,_,_,_,_,_,_,_,_,_,_,_,_,_,_,_,_,_,_,_,_,_,_,_,_,_,_,_,_,_,_,_,_,_,_,_,_,_,_,_,_,_,_,_,_,_,_,_,_,_,_,_,_,_,_,_,_,_,_,_,_,_,_,_,_,_,_,_,_,_,_,_,_,_,_,_,_,_,_,_,_,_,_,_]) rfl ?_
        refine x_blockNormal ?_
        refine x_thenNormal ?_
        refine c_region (n := 86) ⟨rfl, rfl⟩ ?_
        refine s_val (r_add rfl rfl (w_i64 (by omega) (by omega))) ?_
        refine s_val (r_move rfl) ?_
        refine c_nil0 (l' := [_,_,_,_,_,_,_,_,_,_,_,_,_,_,_,_,_,_,_,_,_,_,_,_,_,_,_,_,_,_,_,_,_,_,_,_,_,_,_,_,_,_,_,_,_,_,_,_,_,_,_,_,_,_,_,_,_,_,_,_,_,_,_,_,_,_,_,_,_,_,_,_,_,_,_,_,_,_,_,_,_,_,_,_,_,_]) rfl ?_
        replace H := H.sub (.cons _ (.cons_cons _ (List.Sublist.refl _)))
        exact ⟨i + 1, _, rfl, ⟨_,_,_,_,_,_,_,_,_,_,_,_,_,_,_,_, N2, rfl, by omega, hL2, H⟩, by omega⟩
    · skip
      obtain rfl : i = 3 := by omega
      rw [awL3] at hL
      rw [awA3]
      obtain ⟨eg, ez, eh, es, egs⟩ := aw3_g
      refine wp_exit (x_thenExit (x_thenExit (x_blockHit ?_)))
      refine x_thenNormal ?_
      refine c_rseq (n := 86) ⟨rfl, rfl⟩ ?_
      refine s_val (r_fieldAddr (k := 4) Try.runUnderlying32 rfl Try.sizeOf28 (by decide) rfl rfl) ?_
      refine s_val (r_load1 Try.isAgg28 rfl (H.at 0 rfl) rfl) ?_
      refine s_call (r_call Try.call31 (ec rfl en)) (head_spec bl aw3L _ (hL.rdM (by omega) H (fun p hp => (List.mem_cons_of_mem _ hp)))) ?_
      rintro v w ⟨(⟨hh, _⟩ | ⟨hh, rfl⟩), HC⟩
      · skip
        exact absurd hh (by rw [eh]; decide)
      · skip
        replace H := H.quiet HC
        refine s_val (r_move rfl) ?_
        refine s_val (r_extract rfl rfl) ?_
        refine s_val (r_extract rfl rfl) ?_
        refine s_val (r_assign rfl) ?_
        refine s_val (r_assign rfl) ?_
        refine c_nil (l' := [_,_,_,_,_,_,_,_,_,_,_,_,_,_,_,_,_,_,_,_,_,_,_,_,_,_,_,_,_,_,_,_,_,_,_,_,_,_,_,_,_,_,_,_,_,_,_,_,_,_,_,_,_,_,_,_,_,_,_,_,_,_,_,_,_,_,_,_,_,_,_,_,_,_,_,_,_,_,_,_,_,_,_,_,_,_]) rfl ?_
        refine c_rseq (n := 86) ⟨rfl, rfl⟩ ?_
        refine s_val (r_fieldAddr (k := 4) Try.runUnderlying32 rfl Try.sizeOf28 (by decide) rfl rfl) ?_
        refine s_val (r_load1 Try.isAgg28 rfl (H.at 0 rfl) rfl) ?_
        refine s_val (r_move rfl) ?_
        refine s_call (r_call Try.call19 (ec rfl (ec rfl en))) (lread_spec bl aw3L 4 (by decide) (by decide) _ (hL.rdM (by omega) H (fun p hp => (List.mem_cons_of_mem _ hp)))) ?_
        rintro v w (⟨hno, _⟩ | ⟨_,_,_, (⟨_,_, a2, cap2, N2, rfl, hN2, HC⟩ | ⟨hno, _⟩)⟩)
        · skip
          exact absurd hno (by rw [egs, ez, eg]; decide)
        · skip
          have hb : bodyU (sd aw3L.C (4 : Int).toNat) = [97] := by rw [show sd aw3L.C (4 : Int).toNat = sealS 4 2 [97] from aw3_C]; exact seal_body (by decide)
          rw [hb] at hN2 ⊢
          replace H : St w0 [] w (_ :: (N2 ++ N)) := (H.call0 HC).perm List.perm_middle.symm
          refine s_val (r_move rfl) ?_
          refine s_val (r_extract rfl rfl) ?_
          refine s_val (r_extract rfl rfl) ?_
          refine s_val (r_assign rfl) ?_
          refine s_val (r_assign rfl) ?_
          refine c_nil (l' := [_,_,_,_,_,_,_,_,_,_,_,_,_,_,_,_,_,_,_,_,_,_,_,_,_,_,_,_,_,_,_,_,_,_,_,_,_,_,_,_,_,_,_,_,_,_,_,_,_,_,_,_,_,_,_,_,_,_,_,_,_,_,_,_,_,_,_,_,_,_,_,_,_,_,_,_,_,_,_,_,_,_,_,_,_,_]) rfl ?_
          refine c_rseq (n := 86) ⟨rfl, rfl⟩ ?_
          refine s_val (r_move rfl) ?_
          refine s_test (r_eql rfl rfl) (fun h44 => ?_) (fun h44 => ?_)
          · skip
            refine s_val (r_move rfl) ?_
            refine g_yes rfl rfl ?_
            refine s_val (r_move rfl) ?_
            refine g_yes rfl rfl ?_
            refine s_test (r_eql rfl rfl) (fun h47 => ?_) (fun h47 => ?_)
            · skip
              refine s_val (r_pickt rfl rfl) ?_
              refine s_val (r_move rfl) ?_
              refine g_yes rfl rfl ?_
              refine s_val (r_move rfl) ?_
              refine g_yes rfl rfl ?_
              refine s_test (r_eql rfl rfl) (fun h51 => ?_) (fun h51 => ?_)
              · skip
                refine s_val (r_pickt rfl rfl) ?_
                refine s_val (r_move rfl) ?_
                refine g_yes rfl rfl ?_
                refine s_val (r_fieldAddr (k := 4) Try.runUnderlying32 rfl Try.sizeOf28 (by decide) rfl rfl) ?_
                refine g_yes rfl rfl ?_
                refine s_val (r_load1 Try.isAgg28 rfl (H.at 0 rfl) rfl) ?_
                refine g_yes rfl rfl ?_
                refine s_call (r_call Try.call26 (ec rfl (ec rfl en))) (gen_spec bl aw3L 0 _ (hL.rdM (by omega) H (fun p hp => List.mem_cons_of_mem _ (List.mem_append_right _ hp)))) ?_
                rintro v w ⟨rfl, HC⟩
                replace H := H.quiet HC
                refine g_yes rfl rfl ?_
                refine s_test (r_eql rfl rfl) (fun h57 => ?_) (fun h57 => ?_)
                · skip
                  refine s_val (r_pickt rfl rfl) ?_
                  refine s_val (r_move rfl) ?_
                  refine g_yes rfl rfl ?_
                  refine s_val (r_fieldAddr (k := 4) Try.runUnderlying32 rfl Try.sizeOf28 (by decide) rfl rfl) ?_
                  refine g_yes rfl rfl ?_
                  refine s_val (r_load1 Try.isAgg28 rfl (H.at 0 rfl) rfl) ?_
                  refine g_yes rfl rfl ?_
                  refine s_call (r_call Try.call26 (ec rfl (ec rfl en))) (gen_spec bl aw3L 1 _ (hL.rdM (by omega) H (fun p hp => List.mem_cons_of_mem _ (List.mem_append_right _ hp)))) ?_
                  rintro v w ⟨rfl, HC⟩
                  replace H := H.quiet HC
                  refine g_yes rfl rfl ?_
                  refine s_test (r_eql rfl rfl) (fun h63 => ?_) (fun h63 => ?_)
                  · skip
                    refine s_val (r_pickt rfl rfl) ?_
                    refine s_val (r_move rfl) ?_
                    refine g_yes rfl rfl ?_
                    refine s_val (r_fieldAddr (k := 4) Try.runUnderlying32 rfl Try.sizeOf28 (by decide) rfl rfl) ?_
                    refine g_yes rfl rfl ?_
                    refine s_val (r_load1 Try.isAgg28 rfl (H.at 0 rfl) rfl) ?_
                    refine g_yes rfl rfl ?_
                    refine s_call (r_call Try.call26 (ec rfl (ec rfl en))) (gen_spec bl aw3L 2 _ (hL.rdM (by omega) H (fun p hp => List.mem_cons_of_mem _ (List.mem_append_right _ hp)))) ?_
                    rintro v w ⟨rfl, HC⟩
                    replace H := H.quiet HC
                    refine g_yes rfl rfl ?_
                    refine s_test (r_eql rfl rfl) (fun h69 => ?_) (fun h69 => ?_)
                    · skip
                      refine s_val (r_pickt rfl rfl) ?_
                      refine s_val (r_move rfl) ?_
                      refine g_yes rfl rfl ?_
                      refine s_val (r_fieldAddr (k := 4) Try.runUnderlying32 rfl Try.sizeOf28 (by decide) rfl rfl) ?_
                      refine g_yes rfl rfl ?_
                      refine s_val (r_load1 Try.isAgg28 rfl (H.at 0 rfl) rfl) ?_
                      refine g_yes rfl rfl ?_
                      refine s_call (r_call Try.call24 (ec rfl en)) (room_spec bl aw3L _ (hL.rdM (by omega) H (fun p hp => List.mem_cons_of_mem _ (List.mem_append_right _ hp)))) ?_
                      rintro v w ⟨rfl, HC⟩
                      replace H := H.quiet HC
                      refine g_yes rfl rfl ?_
                      refine s_test (r_eql rfl rfl) (fun h75 => ?_) (fun h75 => ?_)
                      · skip
                        refine s_val (r_pickt rfl rfl) ?_
                        refine s_val (r_move rfl) ?_
                        refine g_yes rfl rfl ?_
                        refine s_val (r_move rfl) ?_
                        refine g_yes rfl rfl ?_
                        refine s_test (r_eql rfl rfl) (fun h79 => ?_) (fun h79 => ?_)
                        · skip
                          refine s_val (r_pickt rfl rfl) ?_
                          refine s_val (r_move rfl) ?_
                          refine g_yes rfl rfl ?_
                          refine s_val (r_move rfl) ?_
                          refine g_yes rfl rfl ?_
                          refine s_val (r_textB Try.runUnderlying40 Try.runUnderlying9 Try.runUnderlying5 (bs := [97]) rfl (hN2.browM H (fun p hp => List.mem_cons_of_mem _ (List.mem_append_left _ hp)))) ?_
                          refine g_yes rfl rfl ?_
                          refine s_test (r_eqlT (s := [97]) (t := [97]) rfl rfl) (fun h84 => ?_) (fun h84 => ?_)
                          · skip
                            refine s_val (r_pickt rfl rfl) ?_
                            refine s_val (r_assign rfl) ?_
                            refine c_nil (l' := [_,_,_,_,_,_,_,_,_,_,_,_,_,_,_,_,_,_,_,_,_,_,_,_,_,_,_,_,_,_,_,_,_,_,_,_,_,_,_,_,_,_,_,_,_,_,_,_,_,_,_,_,_,_,_,_,_,_,_,_,_,_,_,_,_,_,_,_,_,_,_,_,_,_,_,_,_,_,_,_,_,_,_,_,_,_]) rfl ?_
                            refine wp_ret ?_
                            refine e_ret (res1 rfl rfl) ⟨_, rfl, ?_⟩
                            exact ⟨rfl, H.sub (List.nil_sublist _)⟩
                          · skip
                            exact absurd rfl h84
                        · skip
                          exfalso; omega
                      · skip
                        exact absurd (aw3_room) h75
                    · skip
                      exact absurd (by rw [egs]; rfl) h69
                  · skip
                    exact absurd (by rw [egs]; rfl) h63
                · skip
                  exact absurd (by rw [egs]; rfl) h57
              · skip
                exact absurd (es) h51
            · skip
              exact absurd (eh) h47
          · skip
            exfalso; omega
        · skip
          exact absurd ⟨by rw [show sd aw3L.C (4 : Int).toNat = sealS 4 2 [97] from aw3_C]; exact seal_ok (by decide) (by decide) (by decide), by rw [show sd aw3L.C (4 : Int).toNat = sealS 4 2 [97] from aw3_C, seal_gen (by decide) (by decide) (by decide), egs, ez]; rfl⟩ hno

end Go.Proofs.Ytbjalofmamoffaa

