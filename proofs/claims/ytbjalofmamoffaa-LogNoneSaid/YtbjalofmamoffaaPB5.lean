import Derived.Test.YtbjalofmamoffaaPB4
namespace Go.Proofs.Ytbjalofmamoffaa
open Go Go.Er
set_option linter.unusedSimpArgs false in
theorem places119 : Places Try.prog #[⟨ "l", 117, 0, false, "", "erewhile/mirror", 0⟩, ⟨ "n", 3, 4, false, "", "erewhile/mirror", 32⟩, ⟨ "good", 66, 5, false, "", "erewhile/mirror", 40⟩] [(0, 4), (4, 1), (5, 1)] := fun w => by simp [Try.sizeOf117 w, Try.sizeOf3 w, Try.sizeOf66 w]
set_option linter.unusedSimpArgs false in
theorem places116 : Places Try.prog #[⟨ "d", 26, 0, false, "", "erewhile/mirror", 0⟩, ⟨ "stale", 114, 1, false, "", "erewhile/mirror", 8⟩] [(0, 1), (1, 1)] := fun w => by simp [Try.sizeOf114 w, Try.sizeOf26 w]

set_option maxHeartbeats 4000000 in
theorem newmir_spec (ba bb bg : Nat) (C : List Sec) (_hcl : C.length ≤ 4096) (w0 : World) (hda : DevR w0 ba C) (hdb : DevR w0 bb C) :
    Calls Try.prog 22 #[.pointer (some ⟨ba, 0, none⟩), .pointer (some ⟨bb, 0, none⟩), (.func (.func 51) #[] #[.pointer (some ⟨bg, 0, none⟩)])] w0 fun e w => ∃ v, e = .returned v ∧ (∃ bm ma mb, v = .pointer (some ⟨bm, 0, none⟩) ∧ St w0 [] w [(bm, .cells (mC ba ma bb mb C.length (.func (.func 51) #[] #[.pointer (some ⟨bg, 0, none⟩)])).toArray 119 (0, 0)), (mb, mapZ), (ma, mapZ)]) := by
  have H := St.refl w0
  refine c_enter (args := [.pointer (some ⟨ba, 0, none⟩), .pointer (some ⟨bb, 0, none⟩), (.func (.func 51) #[] #[.pointer (some ⟨bg, 0, none⟩)])]) (l := [.pointer (some ⟨ba, 0, none⟩), .pointer (some ⟨bb, 0, none⟩), (.func (.func 51) #[] #[.pointer (some ⟨bg, 0, none⟩)]), undef, undef, undef, undef, undef, undef, undef, undef, undef, undef, undef, undef, undef, undef, undef, undef, undef, undef, undef, undef, undef, undef, undef, undef, undef, undef, undef, undef, undef, undef, undef, undef, undef, undef, undef, undef, undef, undef, undef, undef, undef, undef, undef, undef, undef, undef, undef, undef, undef, undef, undef, undef, undef, undef, undef, undef, undef, undef, undef, undef, undef]) Try.func22 Try.ntmps22 rfl rfl ?_
  refine c_rseq (n := 64) ⟨rfl, rfl⟩ ?_
  refine s_val (r_assign rfl) ?_
  refine c_nil (l' := [_,_,_,_,_,_,_,_,_,_,_,_,_,_,_,_,_,_,_,_,_,_,_,_,_,_,_,_,_,_,_,_,_,_,_,_,_,_,_,_,_,_,_,_,_,_,_,_,_,_,_,_,_,_,_,_,_,_,_,_,_,_,_,_]) rfl ?_
  refine c_rseq (n := 64) ⟨rfl, rfl⟩ ?_
  refine s_val (r_move rfl) ?_
  refine s_call (r_call Try.call49 (ec rfl en)) (dlen_spec ba C _ (hda.st H)) ?_
  rintro v w ⟨rfl, HC⟩
  replace H := H.quiet HC
  refine s_val (r_move rfl) ?_
  refine s_call (r_call Try.call49 (ec rfl en)) (dlen_spec bb C _ (hdb.st H)) ?_
  rintro v w ⟨rfl, HC⟩
  replace H := H.quiet HC
  refine s_val (r_minE (r := (C.length : Nat)) (ec rfl (ec rfl en)) (by rw [if_neg (by omega)])) ?_
  refine s_val (r_move rfl) ?_
  refine s_val (r_buildS Try.runUnderlying119 Try.zeroValue119 places119 (pc rfl (pc rfl pn)) rfl) ?_
  refine s_new (m_box (cs := (mcI ba 0 bb 0 C.length (.func (.func 51) #[] #[.pointer (some ⟨bg, 0, none⟩)]) 0)) H rfl rfl) ?_
  intro w b18 H
  refine s_val (r_assign rfl) ?_
  refine c_nil (l' := [_,_,_,_,_,_,_,_,_,_,_,_,_,_,_,_,_,_,_,_,_,_,_,_,_,_,_,_,_,_,_,_,_,_,_,_,_,_,_,_,_,_,_,_,_,_,_,_,_,_,_,_,_,_,_,_,_,_,_,_,_,_,_,_]) rfl ?_
  refine c_seq ?_
  refine c_rseq (n := 64) ⟨rfl, rfl⟩ ?_
  refine s_val (r_move rfl) ?_
  refine s_val (r_move rfl) ?_
  refine s_new (m_bsliceF (m := 2) (pl := [(0, 1), (1, 1)]) (out := [.pointer (some ⟨ba, 0, none⟩), .pointer (some ⟨bb, 0, none⟩)]) H Try.runUnderlying120 Try.sizeOf26 Try.zeroValue26 rfl (by omega) (by omega) (pc rfl (pc rfl pn)) (by intro p hp; simp at hp; rcases hp with rfl | rfl <;> rfl) rfl) ?_
  intro w b21 H
  refine s_val (r_lens Try.runUnderlying120 (ec rfl en)) ?_
  refine s_val (r_move rfl) ?_
  refine c_nil (l' := [_,_,_,_,_,_,_,_,_,_,_,_,_,_,_,_,_,_,_,_,_,_,_,_,_,_,_,_,_,_,_,_,_,_,_,_,_,_,_,_,_,_,_,_,_,_,_,_,_,_,_,_,_,_,_,_,_,_,_,_,_,_,_,_]) rfl ?_
  refine wp_block ?_
  refine c_loop (fun (l0 : List Value) (i : Nat) (l : List Value) (w : World) => ∃ (u8 u9 u10 u24 u25 u26 u27 u28 u29 u30 u31 u32 u33 u34 u35 u36 u37 u38 u39 u40 u41 u42 u43 u44 u45 u46 u47 u48 u49 u50 u51 u52 u53 u54 u55 u56 u57 u58 u59 u60 u61 u62 : Value) (ma mb : Nat) (Nm : List (Nat × Obj)), l = ovr l0 [N_, N_, N_, N_, N_, N_, N_, N_, Y_ u8, Y_ u9, Y_ u10, N_, N_, N_, N_, N_, N_, N_, N_, N_, N_, N_, N_, Y_ (.int .i64 i), Y_ u24, Y_ u25, Y_ u26, Y_ u27, Y_ u28, Y_ u29, Y_ u30, Y_ u31, Y_ u32, Y_ u33, Y_ u34, Y_ u35, Y_ u36, Y_ u37, Y_ u38, Y_ u39, Y_ u40, Y_ u41, Y_ u42, Y_ u43, Y_ u44, Y_ u45, Y_ u46, Y_ u47, Y_ u48, Y_ u49, Y_ u50, Y_ u51, Y_ u52, Y_ u53, Y_ u54, Y_ u55, Y_ u56, Y_ u57, Y_ u58, Y_ u59, Y_ u60, Y_ u61, Y_ u62] ∧ i ≤ 2 ∧ MapsAt i ma mb Nm ∧ St w0 [] w ((b21, .cells [.pointer (some ⟨ba, 0, none⟩), .pointer (some ⟨bb, 0, none⟩)].toArray 26 (0, 0)) :: (b18, .cells (mcI ba ma bb mb C.length (.func (.func 51) #[] #[.pointer (some ⟨bg, 0, none⟩)]) i).toArray 119 (0, 0)) :: Nm)) (fun (i : Nat) => 2 - i) 0 ⟨_,_,_,_,_,_,_,_,_,_,_,_,_,_,_,_,_,_,_,_,_,_,_,_,_,_,_,_,_,_,_,_,_,_,_,_,_,_,_,_,_,_, 0, 0, [], rfl, by omega, (.inl ⟨rfl, rfl⟩), H⟩ ?_
  intro i l w ⟨u8, u9, u10, u24, u25, u26, u27, u28, u29, u30, u31, u32, u33, u34, u35, u36, u37, u38, u39, u40, u41, u42, u43, u44, u45, u46, u47, u48, u49, u50, u51, u52, u53, u54, u55, u56, u57, u58, u59, u60, u61, u62, ma, mb, Nm, hl, hi, hM, H⟩
  obtain rfl := hl.trans (rfl : _ = [_,_,_,_,_,_,_,_,_,_,_,_,_,_,_,_,_,_,_,_,_,_,_,_,_,_,_,_,_,_,_,_,_,_,_,_,_,_,_,_,_,_,_,_,_,_,_,_,_,_,_,_,_,_,_,_,_,_,_,_,_,_,_,_])
  clear hl
  refine c_rseq (n := 64) ⟨rfl, rfl⟩ ?_
  refine s_val (r_lss rfl rfl) ?_
  refine c_nil (l' := [_,_,_,_,_,_,_,_,_,_,_,_,_,_,_,_,_,_,_,_,_,_,_,_,_,_,_,_,_,_,_,_,_,_,_,_,_,_,_,_,_,_,_,_,_,_,_,_,_,_,_,_,_,_,_,_,_,_,_,_,_,_,_,_]) rfl ?_
  refine c_seq ?_
  refine c_if rfl (fun h24 => ?_) (fun h24 => ?_)
  · skip
    obtain ⟨rfl, rfl⟩ | ⟨rfl, rfl⟩ : (i = 0 ∧ Nm = []) ∨ (i = 1 ∧ Nm = [(ma, mapZ)]) := by
      rcases hM with h | h | h
      · exact .inl h
      · exact .inr h
      · omega
    · skip
      skip
      refine wp_skip ?_
      refine x_thenNormal ?_
      refine c_seq ?_
      refine wp_block ?_
      refine c_rseq (n := 64) ⟨rfl, rfl⟩ ?_
      refine s_val (r_move rfl) ?_
      refine s_val (r_indexAddrS Try.runUnderlying120 Try.sizeOf26 rfl rfl (by omega) (by omega)) ?_
      refine s_val (r_load1 Try.isAgg26 rfl (by first | exact (H.at 0 rfl) | exact (H.at 1 rfl)) rfl) ?_
      refine s_val (r_assign rfl) ?_
      refine s_val (r_assign rfl) ?_
      refine c_nil (l' := [_,_,_,_,_,_,_,_,_,_,_,_,_,_,_,_,_,_,_,_,_,_,_,_,_,_,_,_,_,_,_,_,_,_,_,_,_,_,_,_,_,_,_,_,_,_,_,_,_,_,_,_,_,_,_,_,_,_,_,_,_,_,_,_]) rfl ?_
      refine c_rseq (n := 64) ⟨rfl, rfl⟩ ?_
      refine s_val (r_move rfl) ?_
      refine s_val (r_move rfl) ?_
      refine s_val (r_move rfl) ?_
      refine s_new (m_makeMapZ H) ?_
      intro w bk H
      replace H := H.perm ((List.perm_append_comm (l₁ := [(b21, _), (b18, _)]) (l₂ := [(bk, _)])).append_right _)
      refine s_val (r_buildS Try.runUnderlying116 Try.zeroValue116 places116 (pc rfl (pc rfl pn)) rfl) ?_
      refine s_val (r_nilCheck rfl) ?_
      refine s_val (r_fieldAddr (k := 0) Try.runUnderlying119 rfl Try.sizeOf117 (by decide) rfl rfl) ?_
      refine s_val (r_indexAddrA Try.runUnderlying117 Try.sizeOf116 rfl rfl (by omega) (by omega)) ?_
      refine s_st (m_storen H 1 2 Try.sizeOf116 rfl rfl (by first | exact (kC_length _) | exact (hC_length _) | exact (shC_length _ _) | exact (wC_length _) | exact (sdC_length _ _)) (by first | exact (kC_one _) | exact (hC_one _) | exact (shC_one _ _) | exact (elW.one _) | exact (sdC_one _ _)) rfl (by rw [mcI_length]; omega) rfl) (L' := (_ :: _ :: _)) rfl ?_
      intro w H
      refine c_nil (l' := [_,_,_,_,_,_,_,_,_,_,_,_,_,_,_,_,_,_,_,_,_,_,_,_,_,_,_,_,_,_,_,_,_,_,_,_,_,_,_,_,_,_,_,_,_,_,_,_,_,_,_,_,_,_,_,_,_,_,_,_,_,_,_,_]) rfl ?_
      refine c_rseq (n := 64) ⟨rfl, rfl⟩ ?_
      refine s_val (r_assign rfl) ?_
      refine c_nil (l' := [_,_,_,_,_,_,_,_,_,_,_,_,_,_,_,_,_,_,_,_,_,_,_,_,_,_,_,_,_,_,_,_,_,_,_,_,_,_,_,_,_,_,_,_,_,_,_,_,_,_,_,_,_,_,_,_,_,_,_,_,_,_,_,_]) rfl ?_
      refine wp_block ?_
      refine c_loop (fun (l0 : List Value) (j : Nat) (l : List Value) (w : World) => ∃ (u36 u37 u38 u39 u40 u41 u42 u43 u44 u45 u46 u47 u48 u49 u50 u51 u52 u53 u54 u55 u56 u57 u58 u59 u60 u61 : Value) , l = ovr l0 [N_, N_, N_, N_, N_, N_, N_, N_, N_, N_, Y_ (.int .i64 0), N_, N_, N_, N_, N_, N_, N_, N_, N_, N_, N_, N_, N_, N_, N_, N_, N_, N_, N_, N_, N_, N_, N_, N_, N_, Y_ u36, Y_ u37, Y_ u38, Y_ u39, Y_ u40, Y_ u41, Y_ u42, Y_ u43, Y_ u44, Y_ u45, Y_ u46, Y_ u47, Y_ u48, Y_ u49, Y_ u50, Y_ u51, Y_ u52, Y_ u53, Y_ u54, Y_ u55, Y_ u56, Y_ u57, Y_ u58, Y_ u59, Y_ u60, Y_ u61] ∧ St w0 [] w ((b21, .cells [.pointer (some ⟨ba, 0, none⟩), .pointer (some ⟨bb, 0, none⟩)].toArray 26 (0, 0)) :: (b18, .cells (mcI ba bk bb 0 C.length (.func (.func 51) #[] #[.pointer (some ⟨bg, 0, none⟩)]) 1).toArray 119 (0, 0)) :: [(bk, mapZ)])) (fun (j : Nat) => j) 0 ⟨_,_,_,_,_,_,_,_,_,_,_,_,_,_,_,_,_,_,_,_,_,_,_,_,_,_, rfl, H⟩ ?_
      intro j l w ⟨u36, u37, u38, u39, u40, u41, u42, u43, u44, u45, u46, u47, u48, u49, u50, u51, u52, u53, u54, u55, u56, u57, u58, u59, u60, u61, hl, H⟩
      obtain rfl := hl.trans (rfl : _ = [_,_,_,_,_,_,_,_,_,_,_,_,_,_,_,_,_,_,_,_,_,_,_,_,_,_,_,_,_,_,_,_,_,_,_,_,_,_,_,_,_,_,_,_,_,_,_,_,_,_,_,_,_,_,_,_,_,_,_,_,_,_,_,_])
      clear hl
      refine c_seq ?_
      refine c_rseq (n := 64) ⟨rfl, rfl⟩ ?_
      refine s_val (r_move rfl) ?_
      refine s_val (r_move rfl) ?_
      refine s_val (r_nilCheck rfl) ?_
      refine s_val (r_fieldAddr (k := 4) Try.runUnderlying119 rfl Try.sizeOf3 (by decide) rfl rfl) ?_
      refine s_val (r_load1 Try.isAgg3 rfl (H.at 1 rfl) (mcI_4 _ _ _ _ _ _ _)) ?_
      refine s_test (r_lss rfl rfl) (fun h41 => ?_) (fun h41 => ?_)
      · skip
        refine s_val (r_move rfl) ?_
        refine g_yes rfl rfl ?_
        refine s_val (r_move rfl) ?_
        refine g_yes rfl rfl ?_
        refine s_val (r_move rfl) ?_
        refine g_yes rfl rfl ?_
        refine s_val (r_nilCheck rfl) ?_
        refine g_yes rfl rfl ?_
        refine s_val (r_fieldAddr (k := 0) Try.runUnderlying119 rfl Try.sizeOf117 (by decide) rfl rfl) ?_
        refine g_yes rfl rfl ?_
        refine s_val (r_indexAddrA Try.runUnderlying117 Try.sizeOf116 rfl rfl (by omega) (by omega)) ?_
        refine g_yes rfl rfl ?_
        refine s_val (r_loadn Try.isAgg116 Try.sizeOf116 rfl (H.at 1 rfl) rfl (sdC_length _ _)) ?_
        refine g_yes rfl rfl ?_
        refine s_call (r_call Try.call50 (ec rfl en)) (there_spec _ _ C _ (hda.st (H.sub (List.nil_sublist _)))) ?_
        rintro v w ⟨rfl, HC⟩
        replace H := H.quiet HC
        refine g_yes rfl rfl ?_
        refine s_val (r_not rfl) ?_
        refine s_val (r_pickt rfl rfl) ?_
        refine c_nil (l' := [_,_,_,_,_,_,_,_,_,_,_,_,_,_,_,_,_,_,_,_,_,_,_,_,_,_,_,_,_,_,_,_,_,_,_,_,_,_,_,_,_,_,_,_,_,_,_,_,_,_,_,_,_,_,_,_,_,_,_,_,_,_,_,_]) rfl ?_
        refine c_iff rfl ?_
        refine wp_exit (x_thenExit (x_thenExit (x_blockHit ?_)))
        refine x_blockNormal ?_
        refine x_thenNormal ?_
        refine c_region (n := 64) ⟨rfl, rfl⟩ ?_
        refine s_val (r_add rfl rfl (w_i64 (by omega) (by omega))) ?_
        refine s_val (r_move rfl) ?_
        refine c_nil0 (l' := [_,_,_,_,_,_,_,_,_,_,_,_,_,_,_,_,_,_,_,_,_,_,_,_,_,_,_,_,_,_,_,_,_,_,_,_,_,_,_,_,_,_,_,_,_,_,_,_,_,_,_,_,_,_,_,_,_,_,_,_,_,_,_,_]) rfl ?_
        exact ⟨1, _, rfl, ⟨_,_,_,_,_,_,_,_,_,_,_,_,_,_,_,_,_,_,_,_,_,_,_,_,_,_,_,_,_,_,_,_,_,_,_,_,_,_,_,_,_,_, bk, 0, [(bk, mapZ)], rfl, by omega, (.inr (.inl ⟨rfl, rfl⟩)), H⟩, by omega⟩
      · skip
        refine s_val (r_move rfl) ?_
        refine g_no rfl rfl (by decide) ?_
        refine g_no rfl rfl (by decide) ?_
        refine g_no rfl rfl (by decide) ?_
        refine g_no rfl rfl (by decide) ?_
        refine g_no rfl rfl (by decide) ?_
        refine g_no rfl rfl (by decide) ?_
        refine g_no rfl rfl (by decide) ?_
        refine g_no rfl rfl (by decide) ?_
        refine s_val (r_pickf rfl rfl) ?_
        refine c_nil (l' := [_,_,_,_,_,_,_,_,_,_,_,_,_,_,_,_,_,_,_,_,_,_,_,_,_,_,_,_,_,_,_,_,_,_,_,_,_,_,_,_,_,_,_,_,_,_,_,_,_,_,_,_,_,_,_,_,_,_,_,_,_,_,_,_]) rfl ?_
        refine c_iff rfl ?_
        refine wp_exit (x_thenExit (x_thenExit (x_blockHit ?_)))
        refine x_blockNormal ?_
        refine x_thenNormal ?_
        refine c_region (n := 64) ⟨rfl, rfl⟩ ?_
        refine s_val (r_add rfl rfl (w_i64 (by omega) (by omega))) ?_
        refine s_val (r_move rfl) ?_
        refine c_nil0 (l' := [_,_,_,_,_,_,_,_,_,_,_,_,_,_,_,_,_,_,_,_,_,_,_,_,_,_,_,_,_,_,_,_,_,_,_,_,_,_,_,_,_,_,_,_,_,_,_,_,_,_,_,_,_,_,_,_,_,_,_,_,_,_,_,_]) rfl ?_
        exact ⟨1, _, rfl, ⟨_,_,_,_,_,_,_,_,_,_,_,_,_,_,_,_,_,_,_,_,_,_,_,_,_,_,_,_,_,_,_,_,_,_,_,_,_,_,_,_,_,_, bk, 0, [(bk, mapZ)], rfl, by omega, (.inr (.inl ⟨rfl, rfl⟩)), H⟩, by omega⟩
    · skip
      skip
      refine wp_skip ?_
      refine x_thenNormal ?_
      refine c_seq ?_
      refine wp_block ?_
      refine c_rseq (n := 64) ⟨rfl, rfl⟩ ?_
      refine s_val (r_move rfl) ?_
      refine s_val (r_indexAddrS Try.runUnderlying120 Try.sizeOf26 rfl rfl (by omega) (by omega)) ?_
      refine s_val (r_load1 Try.isAgg26 rfl (by first | exact (H.at 0 rfl) | exact (H.at 1 rfl)) rfl) ?_
      refine s_val (r_assign rfl) ?_
      refine s_val (r_assign rfl) ?_
      refine c_nil (l' := [_,_,_,_,_,_,_,_,_,_,_,_,_,_,_,_,_,_,_,_,_,_,_,_,_,_,_,_,_,_,_,_,_,_,_,_,_,_,_,_,_,_,_,_,_,_,_,_,_,_,_,_,_,_,_,_,_,_,_,_,_,_,_,_]) rfl ?_
      refine c_rseq (n := 64) ⟨rfl, rfl⟩ ?_
      refine s_val (r_move rfl) ?_
      refine s_val (r_move rfl) ?_
      refine s_val (r_move rfl) ?_
      refine s_new (m_makeMapZ H) ?_
      intro w bk H
      replace H := H.perm ((List.perm_append_comm (l₁ := [(b21, _), (b18, _)]) (l₂ := [(bk, _)])).append_right _)
      refine s_val (r_buildS Try.runUnderlying116 Try.zeroValue116 places116 (pc rfl (pc rfl pn)) rfl) ?_
      refine s_val (r_nilCheck rfl) ?_
      refine s_val (r_fieldAddr (k := 0) Try.runUnderlying119 rfl Try.sizeOf117 (by decide) rfl rfl) ?_
      refine s_val (r_indexAddrA Try.runUnderlying117 Try.sizeOf116 rfl rfl (by omega) (by omega)) ?_
      refine s_st (m_storen H 1 2 Try.sizeOf116 rfl rfl (by first | exact (kC_length _) | exact (hC_length _) | exact (shC_length _ _) | exact (wC_length _) | exact (sdC_length _ _)) (by first | exact (kC_one _) | exact (hC_one _) | exact (shC_one _ _) | exact (elW.one _) | exact (sdC_one _ _)) rfl (by rw [mcI_length]; omega) rfl) (L' := (_ :: _ :: _)) rfl ?_
      intro w H
      refine c_nil (l' := [_,_,_,_,_,_,_,_,_,_,_,_,_,_,_,_,_,_,_,_,_,_,_,_,_,_,_,_,_,_,_,_,_,_,_,_,_,_,_,_,_,_,_,_,_,_,_,_,_,_,_,_,_,_,_,_,_,_,_,_,_,_,_,_]) rfl ?_
      refine c_rseq (n := 64) ⟨rfl, rfl⟩ ?_
      refine s_val (r_assign rfl) ?_
      refine c_nil (l' := [_,_,_,_,_,_,_,_,_,_,_,_,_,_,_,_,_,_,_,_,_,_,_,_,_,_,_,_,_,_,_,_,_,_,_,_,_,_,_,_,_,_,_,_,_,_,_,_,_,_,_,_,_,_,_,_,_,_,_,_,_,_,_,_]) rfl ?_
      refine wp_block ?_
      refine c_loop (fun (l0 : List Value) (j : Nat) (l : List Value) (w : World) => ∃ (u36 u37 u38 u39 u40 u41 u42 u43 u44 u45 u46 u47 u48 u49 u50 u51 u52 u53 u54 u55 u56 u57 u58 u59 u60 u61 : Value) , l = ovr l0 [N_, N_, N_, N_, N_, N_, N_, N_, N_, N_, Y_ (.int .i64 0), N_, N_, N_, N_, N_, N_, N_, N_, N_, N_, N_, N_, N_, N_, N_, N_, N_, N_, N_, N_, N_, N_, N_, N_, N_, Y_ u36, Y_ u37, Y_ u38, Y_ u39, Y_ u40, Y_ u41, Y_ u42, Y_ u43, Y_ u44, Y_ u45, Y_ u46, Y_ u47, Y_ u48, Y_ u49, Y_ u50, Y_ u51, Y_ u52, Y_ u53, Y_ u54, Y_ u55, Y_ u56, Y_ u57, Y_ u58, Y_ u59, Y_ u60, Y_ u61] ∧ St w0 [] w ((b21, .cells [.pointer (some ⟨ba, 0, none⟩), .pointer (some ⟨bb, 0, none⟩)].toArray 26 (0, 0)) :: (b18, .cells (mcI ba ma bb bk C.length (.func (.func 51) #[] #[.pointer (some ⟨bg, 0, none⟩)]) 2).toArray 119 (0, 0)) :: [(bk, mapZ), (ma, mapZ)])) (fun (j : Nat) => j) 0 ⟨_,_,_,_,_,_,_,_,_,_,_,_,_,_,_,_,_,_,_,_,_,_,_,_,_,_, rfl, H⟩ ?_
      intro j l w ⟨u36, u37, u38, u39, u40, u41, u42, u43, u44, u45, u46, u47, u48, u49, u50, u51, u52, u53, u54, u55, u56, u57, u58, u59, u60, u61, hl, H⟩
      obtain rfl := hl.trans (rfl : _ = [_,_,_,_,_,_,_,_,_,_,_,_,_,_,_,_,_,_,_,_,_,_,_,_,_,_,_,_,_,_,_,_,_,_,_,_,_,_,_,_,_,_,_,_,_,_,_,_,_,_,_,_,_,_,_,_,_,_,_,_,_,_,_,_])
      clear hl
      refine c_seq ?_
      refine c_rseq (n := 64) ⟨rfl, rfl⟩ ?_
      refine s_val (r_move rfl) ?_
      refine s_val (r_move rfl) ?_
      refine s_val (r_nilCheck rfl) ?_
      refine s_val (r_fieldAddr (k := 4) Try.runUnderlying119 rfl Try.sizeOf3 (by decide) rfl rfl) ?_
      refine s_val (r_load1 Try.isAgg3 rfl (H.at 1 rfl) (mcI_4 _ _ _ _ _ _ _)) ?_
      refine s_test (r_lss rfl rfl) (fun h41 => ?_) (fun h41 => ?_)
      · skip
        refine s_val (r_move rfl) ?_
        refine g_yes rfl rfl ?_
        refine s_val (r_move rfl) ?_
        refine g_yes rfl rfl ?_
        refine s_val (r_move rfl) ?_
        refine g_yes rfl rfl ?_
        refine s_val (r_nilCheck rfl) ?_
        refine g_yes rfl rfl ?_
        refine s_val (r_fieldAddr (k := 0) Try.runUnderlying119 rfl Try.sizeOf117 (by decide) rfl rfl) ?_
        refine g_yes rfl rfl ?_
        refine s_val (r_indexAddrA Try.runUnderlying117 Try.sizeOf116 rfl rfl (by omega) (by omega)) ?_
        refine g_yes rfl rfl ?_
        refine s_val (r_loadn Try.isAgg116 Try.sizeOf116 rfl (H.at 1 rfl) rfl (sdC_length _ _)) ?_
        refine g_yes rfl rfl ?_
        refine s_call (r_call Try.call50 (ec rfl en)) (there_spec _ _ C _ (hdb.st (H.sub (List.nil_sublist _)))) ?_
        rintro v w ⟨rfl, HC⟩
        replace H := H.quiet HC
        refine g_yes rfl rfl ?_
        refine s_val (r_not rfl) ?_
        refine s_val (r_pickt rfl rfl) ?_
        refine c_nil (l' := [_,_,_,_,_,_,_,_,_,_,_,_,_,_,_,_,_,_,_,_,_,_,_,_,_,_,_,_,_,_,_,_,_,_,_,_,_,_,_,_,_,_,_,_,_,_,_,_,_,_,_,_,_,_,_,_,_,_,_,_,_,_,_,_]) rfl ?_
        refine c_iff rfl ?_
        refine wp_exit (x_thenExit (x_thenExit (x_blockHit ?_)))
        refine x_blockNormal ?_
        refine x_thenNormal ?_
        refine c_region (n := 64) ⟨rfl, rfl⟩ ?_
        refine s_val (r_add rfl rfl (w_i64 (by omega) (by omega))) ?_
        refine s_val (r_move rfl) ?_
        refine c_nil0 (l' := [_,_,_,_,_,_,_,_,_,_,_,_,_,_,_,_,_,_,_,_,_,_,_,_,_,_,_,_,_,_,_,_,_,_,_,_,_,_,_,_,_,_,_,_,_,_,_,_,_,_,_,_,_,_,_,_,_,_,_,_,_,_,_,_]) rfl ?_
        exact ⟨2, _, rfl, ⟨_,_,_,_,_,_,_,_,_,_,_,_,_,_,_,_,_,_,_,_,_,_,_,_,_,_,_,_,_,_,_,_,_,_,_,_,_,_,_,_,_,_, ma, bk, [(bk, mapZ), (ma, mapZ)], rfl, by omega, (.inr (.inr ⟨rfl, rfl⟩)), H⟩, by omega⟩
      · skip
        refine s_val (r_move rfl) ?_
        refine g_no rfl rfl (by decide) ?_
        refine g_no rfl rfl (by decide) ?_
        refine g_no rfl rfl (by decide) ?_
        refine g_no rfl rfl (by decide) ?_
        refine g_no rfl rfl (by decide) ?_
        refine g_no rfl rfl (by decide) ?_
        refine g_no rfl rfl (by decide) ?_
        refine g_no rfl rfl (by decide) ?_
        refine s_val (r_pickf rfl rfl) ?_
        refine c_nil (l' := [_,_,_,_,_,_,_,_,_,_,_,_,_,_,_,_,_,_,_,_,_,_,_,_,_,_,_,_,_,_,_,_,_,_,_,_,_,_,_,_,_,_,_,_,_,_,_,_,_,_,_,_,_,_,_,_,_,_,_,_,_,_,_,_]) rfl ?_
        refine c_iff rfl ?_
        refine wp_exit (x_thenExit (x_thenExit (x_blockHit ?_)))
        refine x_blockNormal ?_
        refine x_thenNormal ?_
        refine c_region (n := 64) ⟨rfl, rfl⟩ ?_
        refine s_val (r_add rfl rfl (w_i64 (by omega) (by omega))) ?_
        refine s_val (r_move rfl) ?_
        refine c_nil0 (l' := [_,_,_,_,_,_,_,_,_,_,_,_,_,_,_,_,_,_,_,_,_,_,_,_,_,_,_,_,_,_,_,_,_,_,_,_,_,_,_,_,_,_,_,_,_,_,_,_,_,_,_,_,_,_,_,_,_,_,_,_,_,_,_,_]) rfl ?_
        exact ⟨2, _, rfl, ⟨_,_,_,_,_,_,_,_,_,_,_,_,_,_,_,_,_,_,_,_,_,_,_,_,_,_,_,_,_,_,_,_,_,_,_,_,_,_,_,_,_,_, ma, bk, [(bk, mapZ), (ma, mapZ)], rfl, by omega, (.inr (.inr ⟨rfl, rfl⟩)), H⟩, by omega⟩
  · skip
    obtain ⟨rfl, rfl⟩ : i = 2 ∧ Nm = [(mb, mapZ), (ma, mapZ)] := by
      rcases hM with h | h | h
      · omega
      · omega
      · exact h
    refine wp_exit (x_thenExit (x_thenExit (x_blockHit ?_)))
    refine x_thenNormal ?_
    refine c_rseq (n := 64) ⟨rfl, rfl⟩ ?_
    refine s_val (r_move rfl) ?_
    refine s_val (r_assign rfl) ?_
    refine c_nil (l' := [_,_,_,_,_,_,_,_,_,_,_,_,_,_,_,_,_,_,_,_,_,_,_,_,_,_,_,_,_,_,_,_,_,_,_,_,_,_,_,_,_,_,_,_,_,_,_,_,_,_,_,_,_,_,_,_,_,_,_,_,_,_,_,_]) rfl ?_
    refine wp_ret ?_
    refine e_ret (res1 rfl rfl) ⟨_, rfl, ?_⟩
    exact ⟨b18, ma, mb, rfl, H.sub (.cons _ (List.Sublist.refl _))⟩

end Go.Proofs.Ytbjalofmamoffaa

