import Derived.Test.YtobfnieebiakeaaPX2
namespace Go.Proofs.Ytobfnieebiakeaa
open Go Go.Er
set_option linter.unusedSimpArgs false in
theorem places43 : Places Try.prog #[⟨ "Kind", 3, 0, false, "", "", 0⟩, ⟨ "Num", 28, 1, false, "", "", 8⟩, ⟨ "Min", 3, 2, false, "", "", 16⟩, ⟨ "Place", 40, 3, false, "", "", 24⟩, ⟨ "Ref", 28, 6, false, "", "", 48⟩, ⟨ "From", 3, 7, false, "", "", 56⟩, ⟨ "To", 3, 8, false, "", "", 64⟩, ⟨ "Until", 3, 9, false, "", "", 72⟩, ⟨ "Body", 41, 10, false, "", "", 80⟩] [(0, 1), (1, 1), (2, 1), (3, 3), (6, 1), (7, 1), (8, 1), (9, 1), (10, 1)] := fun w => by simp [Try.sizeOf28 w, Try.sizeOf3 w, Try.sizeOf40 w, Try.sizeOf41 w]

theorem has_yn (k : Int) (w0 : World) : Calls Try.prog 64 #[.int .i64 k] w0 fun e w => ∃ v, e = .returned v ∧ ((kOk k = true ∧ v = .tuple #[.agg (ptC (kPl k) (kRf k) (kMi k) (kBo k)).toArray, .bool true] ∧ St w0 [] w []) ∨ (kOk k = false ∧ v = .tuple #[.agg (ptC (kPl k) (kRf k) (kMi k) (kBo k)).toArray, .bool false] ∧ St w0 [] w [])) :=
 (has_k k w0).mono fun _ _ ⟨v, he, hv, H⟩ => ⟨v, he, by
  cases h : kOk k with
  | true => rw [h] at hv; exact .inl ⟨rfl, hv, H⟩
  | false => rw [h] at hv; exact .inr ⟨rfl, hv, H⟩⟩

set_option maxHeartbeats 4000000 in
theorem right_c (y : Ce) (w0 : World) (hy : BRow w0 y.body.a y.body.b) :
  Calls Try.prog 45 #[.agg (ceC y).toArray] w0 fun e w => ∃ v, e = .returned v ∧ (((rightC (ceP y)) ∧ v = .bool true ∧ St w0 [] w []) ∨ (¬ (rightC (ceP y)) ∧ v = .bool false ∧ St w0 [] w [])) := by
 have H := St.refl w0
 refine c_enter (args := [.agg (ceC y).toArray]) (l := [.agg (ceC y).toArray, undef, undef, undef, undef, undef, undef, undef, undef, undef, undef, undef, undef, undef, undef, undef, undef, undef, undef, undef, undef, undef, undef, undef, undef, undef, undef, undef, undef, undef, undef, undef, undef, undef, undef, undef, undef, undef, undef, undef, undef, undef, undef, undef, undef, undef, undef, undef, undef, undef, undef, undef, undef, undef, undef, undef, undef, undef, undef, undef, undef, undef, undef, undef, undef, undef, undef, undef, undef, undef]) Try.func45 Try.ntmps45 rfl rfl ?_
 refine c_rseq (n := 70) ⟨rfl, rfl⟩ ?_
 refine s_new (m_box (cs := (ceC y)) H rfl rfl) ?_
 intro w b1 H
 refine s_val (r_assign rfl) ?_
 refine c_nil (l' := [_,_,_,_,_,_,_,_,_,_,_,_,_,_,_,_,_,_,_,_,_,_,_,_,_,_,_,_,_,_,_,_,_,_,_,_,_,_,_,_,_,_,_,_,_,_,_,_,_,_,_,_,_,_,_,_,_,_,_,_,_,_,_,_,_,_,_,_,_,_]) rfl ?_
 refine c_rseq (n := 70) ⟨rfl, rfl⟩ ?_
 refine s_val (r_fieldAddr (k := 0) Try.runUnderlying43 rfl Try.sizeOf3 (by decide) rfl rfl) ?_
 refine s_val (r_load1 Try.isAgg3 rfl (H.at 0 rfl) rfl) ?_
 refine s_call (r_call Try.call64 (ec rfl en)) (has_yn _ _) ?_
 rintro v w (⟨hok, rfl, HC⟩ | ⟨hok, rfl, HC⟩)
 ·skip
  replace H := H.quiet HC
  refine s_val (r_move rfl) ?_
  refine s_val (r_extract rfl rfl) ?_
  refine s_val (r_extract rfl rfl) ?_
  refine s_new (m_alloc (cs := (ptC false false false false)) H Try.zeroValue121 rfl) ?_
  intro w b3 H
  refine s_st (m_storen H 0 4 Try.sizeOf121 rfl rfl (by first | exact (kC_length _) | exact (hC_length _) | exact (ceC_length _) | exact (ptC_length _ _ _ _) | exact (plV_length _ _ _)) (by first | exact (kC_one _) | exact (hC_one _) | exact (ceC_one _) | exact (ptC_one _ _ _ _) | exact (plV_one _ _ _)) rfl (by show 0 + 4 ≤ 4; omega) (rfl : _ = ptC (kPl y.kind) (kRf y.kind) (kMi y.kind) (kBo y.kind))) (L' := (_ :: _ :: _)) rfl ?_
  intro w H
  refine s_val (r_assign rfl) ?_
  refine c_nil (l' := [_,_,_,_,_,_,_,_,_,_,_,_,_,_,_,_,_,_,_,_,_,_,_,_,_,_,_,_,_,_,_,_,_,_,_,_,_,_,_,_,_,_,_,_,_,_,_,_,_,_,_,_,_,_,_,_,_,_,_,_,_,_,_,_,_,_,_,_,_,_]) rfl ?_
  refine c_rseq (n := 70) ⟨rfl, rfl⟩ ?_
  refine s_val (r_fieldAddr (k := 0) Try.runUnderlying43 rfl Try.sizeOf3 (by decide) rfl rfl) ?_
  refine s_val (r_load1 Try.isAgg3 rfl (H.at 1 rfl) rfl) ?_
  refine s_val (r_fieldAddr (k := 1) Try.runUnderlying43 rfl Try.sizeOf28 (by decide) rfl rfl) ?_
  refine s_val (r_load1 Try.isAgg28 rfl (H.at 1 rfl) rfl) ?_
  refine s_val (r_fieldAddr (k := 2) Try.runUnderlying43 rfl Try.sizeOf3 (by decide) rfl rfl) ?_
  refine s_val (r_load1 Try.isAgg3 rfl (H.at 1 rfl) rfl) ?_
  refine s_val (r_buildS Try.runUnderlying43 Try.zeroValue43 places43 (pc rfl (pc rfl (pc rfl pn))) (rfl : fillL _ _ _ = some (ceC (oD0 y)))) ?_
  refine s_new (m_alloc (cs := (ceC ce0)) H Try.zeroValue43 rfl) ?_
  intro w b5 H
  refine s_st (m_storen H 0 11 Try.sizeOf43 rfl rfl (by first | exact (kC_length _) | exact (hC_length _) | exact (ceC_length _) | exact (ptC_length _ _ _ _) | exact (plV_length _ _ _)) (by first | exact (kC_one _) | exact (hC_one _) | exact (ceC_one _) | exact (ptC_one _ _ _ _) | exact (plV_one _ _ _)) rfl (by show 0 + 11 ≤ 11; omega) (ceC_sp _ _)) (L' := (_ :: _ :: _ :: _)) rfl ?_
  intro w H
  refine c_nil (l' := [_,_,_,_,_,_,_,_,_,_,_,_,_,_,_,_,_,_,_,_,_,_,_,_,_,_,_,_,_,_,_,_,_,_,_,_,_,_,_,_,_,_,_,_,_,_,_,_,_,_,_,_,_,_,_,_,_,_,_,_,_,_,_,_,_,_,_,_,_,_]) rfl ?_
  refine c_cut (fun (l0 : List Value) (l : List Value) (w : World) => ∃ (u19 u20 u21 u22 u23 : Value) , l = ovr l0 [N_, N_, N_, N_, N_, N_, N_, N_, N_, N_, N_, N_, N_, N_, N_, N_, N_, N_, N_, Y_ u19, Y_ u20, Y_ u21, Y_ u22, Y_ u23] ∧ St w0 [] w [(b5, .cells (ceC (oD1 y)).toArray 43 (0, 0)), (b3, .cells (ptC (kPl y.kind) (kRf y.kind) (kMi y.kind) (kBo y.kind)).toArray 121 (0, 0)), (b1, .cells (ceC y).toArray 43 (0, 0))]) ?_ ?_
  ·skip
   refine c_rseq (n := 70) ⟨rfl, rfl⟩ ?_
   refine s_val (r_fieldAddr (k := 0) Try.runUnderlying121 rfl Try.sizeOf4 (by decide) rfl rfl) ?_
   refine s_val (r_load1 Try.isAgg4 rfl (H.at 1 rfl) rfl) ?_
   refine c_nil (l' := [_,_,_,_,_,_,_,_,_,_,_,_,_,_,_,_,_,_,_,_,_,_,_,_,_,_,_,_,_,_,_,_,_,_,_,_,_,_,_,_,_,_,_,_,_,_,_,_,_,_,_,_,_,_,_,_,_,_,_,_,_,_,_,_,_,_,_,_,_,_]) rfl ?_
   refine c_ifb rfl (fun h20 => ?_) (fun h20 => ?_)
   ·skip
    refine c_region (n := 70) ⟨rfl, rfl⟩ ?_
    refine s_val (r_fieldAddr (k := 3) Try.runUnderlying43 rfl Try.sizeOf40 (by decide) rfl rfl) ?_
    refine s_val (r_loadn Try.isAgg40 Try.sizeOf40 rfl (H.at 2 rfl) (ceC_place _) (by first | exact (kC_length _) | exact (hC_length _) | exact (ceC_length _) | exact (ptC_length _ _ _ _) | exact (plV_length _ _ _) | exact rfl)) ?_
    refine s_val (r_fieldAddr (k := 3) Try.runUnderlying43 rfl Try.sizeOf40 (by decide) rfl rfl) ?_
    refine s_st (m_storen H 0 3 Try.sizeOf40 rfl rfl (by first | exact (kC_length _) | exact (hC_length _) | exact (ceC_length _) | exact (ptC_length _ _ _ _) | exact (plV_length _ _ _)) (by first | exact (kC_one _) | exact (hC_one _) | exact (ceC_one _) | exact (ptC_one _ _ _ _) | exact (plV_one _ _ _)) rfl (by show 3 + 3 ≤ 11; omega) (oD1_yes h20)) (L' := (_ :: _ :: _ :: _)) rfl ?_
    intro w H
    refine c_nil0 (l' := [_,_,_,_,_,_,_,_,_,_,_,_,_,_,_,_,_,_,_,_,_,_,_,_,_,_,_,_,_,_,_,_,_,_,_,_,_,_,_,_,_,_,_,_,_,_,_,_,_,_,_,_,_,_,_,_,_,_,_,_,_,_,_,_,_,_,_,_,_,_]) rfl ?_
    exact ⟨_, rfl, ⟨_,_,_,_,_, rfl, H⟩⟩
   ·skip
    rw [← oD1_no h20] at H
    refine wp_skip ?_
    exact ⟨_, rfl, ⟨_,_,_,_,_, rfl, H⟩⟩
  ·skip
   rintro l w ⟨u19, u20, u21, u22, u23, hl, H⟩
   obtain rfl := hl.trans (rfl : _ = [_,_,_,_,_,_,_,_,_,_,_,_,_,_,_,_,_,_,_,_,_,_,_,_,_,_,_,_,_,_,_,_,_,_,_,_,_,_,_,_,_,_,_,_,_,_,_,_,_,_,_,_,_,_,_,_,_,_,_,_,_,_,_,_,_,_,_,_,_,_])
   clear hl
   refine c_cut (fun (l0 : List Value) (l : List Value) (w : World) => ∃ (u24 u25 u26 u27 u28 : Value) , l = ovr l0 [N_, N_, N_, N_, N_, N_, N_, N_, N_, N_, N_, N_, N_, N_, N_, N_, N_, N_, N_, N_, N_, N_, N_, N_, Y_ u24, Y_ u25, Y_ u26, Y_ u27, Y_ u28] ∧ St w0 [] w [(b5, .cells (ceC (oD2 y)).toArray 43 (0, 0)), (b3, .cells (ptC (kPl y.kind) (kRf y.kind) (kMi y.kind) (kBo y.kind)).toArray 121 (0, 0)), (b1, .cells (ceC y).toArray 43 (0, 0))]) ?_ ?_
   ·skip
    refine c_rseq (n := 70) ⟨rfl, rfl⟩ ?_
    refine s_val (r_fieldAddr (k := 1) Try.runUnderlying121 rfl Try.sizeOf4 (by decide) rfl rfl) ?_
    refine s_val (r_load1 Try.isAgg4 rfl (H.at 1 rfl) rfl) ?_
    refine c_nil (l' := [_,_,_,_,_,_,_,_,_,_,_,_,_,_,_,_,_,_,_,_,_,_,_,_,_,_,_,_,_,_,_,_,_,_,_,_,_,_,_,_,_,_,_,_,_,_,_,_,_,_,_,_,_,_,_,_,_,_,_,_,_,_,_,_,_,_,_,_,_,_]) rfl ?_
    refine c_ifb rfl (fun h25 => ?_) (fun h25 => ?_)
    ·skip
     refine c_region (n := 70) ⟨rfl, rfl⟩ ?_
     refine s_val (r_fieldAddr (k := 6) Try.runUnderlying43 rfl Try.sizeOf28 (by decide) rfl rfl) ?_
     refine s_val (r_load1 Try.isAgg28 rfl (H.at 2 rfl) rfl) ?_
     refine s_val (r_fieldAddr (k := 6) Try.runUnderlying43 rfl Try.sizeOf28 (by decide) rfl rfl) ?_
     refine s_st (m_store1 H 0 Try.sizeOf28 rfl rfl rfl rfl (by show 6 < 11; omega) (oD2_yes h25)) (L' := (_ :: _ :: _ :: _)) rfl ?_
     intro w H
     refine c_nil0 (l' := [_,_,_,_,_,_,_,_,_,_,_,_,_,_,_,_,_,_,_,_,_,_,_,_,_,_,_,_,_,_,_,_,_,_,_,_,_,_,_,_,_,_,_,_,_,_,_,_,_,_,_,_,_,_,_,_,_,_,_,_,_,_,_,_,_,_,_,_,_,_]) rfl ?_
     exact ⟨_, rfl, ⟨_,_,_,_,_, rfl, H⟩⟩
    ·skip
     rw [← oD2_no h25] at H
     refine wp_skip ?_
     exact ⟨_, rfl, ⟨_,_,_,_,_, rfl, H⟩⟩
   ·skip
    rintro l w ⟨u24, u25, u26, u27, u28, hl, H⟩
    obtain rfl := hl.trans (rfl : _ = [_,_,_,_,_,_,_,_,_,_,_,_,_,_,_,_,_,_,_,_,_,_,_,_,_,_,_,_,_,_,_,_,_,_,_,_,_,_,_,_,_,_,_,_,_,_,_,_,_,_,_,_,_,_,_,_,_,_,_,_,_,_,_,_,_,_,_,_,_,_])
    clear hl
    refine c_cut (fun (l0 : List Value) (l : List Value) (w : World) => ∃ (u29 u30 u31 u32 u33 u34 u35 u36 u37 u38 u39 : Value) , l = ovr l0 [N_, N_, N_, N_, N_, N_, N_, N_, N_, N_, N_, N_, N_, N_, N_, N_, N_, N_, N_, N_, N_, N_, N_, N_, N_, N_, N_, N_, N_, Y_ u29, Y_ u30, Y_ u31, Y_ u32, Y_ u33, Y_ u34, Y_ u35, Y_ u36, Y_ u37, Y_ u38, Y_ u39] ∧ St w0 [] w [(b5, .cells (ceC (oD3 y)).toArray 43 (0, 0)), (b3, .cells (ptC (kPl y.kind) (kRf y.kind) (kMi y.kind) (kBo y.kind)).toArray 121 (0, 0)), (b1, .cells (ceC y).toArray 43 (0, 0))]) ?_ ?_
    ·skip
     refine c_rseq (n := 70) ⟨rfl, rfl⟩ ?_
     refine s_val (r_fieldAddr (k := 2) Try.runUnderlying121 rfl Try.sizeOf4 (by decide) rfl rfl) ?_
     refine s_val (r_load1 Try.isAgg4 rfl (H.at 1 rfl) rfl) ?_
     refine c_nil (l' := [_,_,_,_,_,_,_,_,_,_,_,_,_,_,_,_,_,_,_,_,_,_,_,_,_,_,_,_,_,_,_,_,_,_,_,_,_,_,_,_,_,_,_,_,_,_,_,_,_,_,_,_,_,_,_,_,_,_,_,_,_,_,_,_,_,_,_,_,_,_]) rfl ?_
     refine c_ifb rfl (fun h30 => ?_) (fun h30 => ?_)
     ·skip
      refine d_begin (sz := 70) ⟨rfl, rfl⟩ (by kernel_rfl) H (H.sub (.cons _ (.cons_cons _ (.cons_cons _ (List.Sublist.refl _))))) rfl ?_
      intro w H
      refine d_take (i := 0) rfl (by kernel_rfl) (fun _ _ _ h => h) (H.sub (.cons _ (.cons_cons _ (.cons_cons _ (List.Sublist.refl _))))) (fun _ _ => r_fieldAddr (k := 7) Try.runUnderlying43 rfl Try.sizeOf3 (by decide) rfl rfl) rfl ?_
      refine d_take (i := 1) rfl (by kernel_rfl) (fun _ _ _ h => h) (H.sub (.cons _ (.cons_cons _ (.cons_cons _ (List.Sublist.refl _))))) (fun _ HS => r_load1 Try.isAgg3 rfl (HS.at 1 rfl) rfl) rfl ?_
      refine d_take (i := 2) rfl (by kernel_rfl) (fun _ _ _ h => h) (H.sub (.cons _ (.cons_cons _ (.cons_cons _ (List.Sublist.refl _))))) (fun _ _ => r_fieldAddr (k := 8) Try.runUnderlying43 rfl Try.sizeOf3 (by decide) rfl rfl) rfl ?_
      refine d_take (i := 3) rfl (by kernel_rfl) (fun _ _ _ h => h) (H.sub (.cons _ (.cons_cons _ (.cons_cons _ (List.Sublist.refl _))))) (fun _ HS => r_load1 Try.isAgg3 rfl (HS.at 1 rfl) rfl) rfl ?_
      refine d_take (i := 4) rfl (by kernel_rfl) (fun _ _ _ h => h) (H.sub (.cons _ (.cons_cons _ (.cons_cons _ (List.Sublist.refl _))))) (fun _ _ => r_fieldAddr (k := 9) Try.runUnderlying43 rfl Try.sizeOf3 (by decide) rfl rfl) rfl ?_
      refine d_take (i := 5) rfl (by kernel_rfl) (fun _ _ _ h => h) (H.sub (.cons _ (.cons_cons _ (.cons_cons _ (List.Sublist.refl _))))) (fun _ HS => r_load1 Try.isAgg3 rfl (HS.at 1 rfl) rfl) rfl ?_
      refine d_take (i := 6) rfl (by kernel_rfl) (fun _ _ _ h => h) (H.sub (.cons _ (.cons_cons _ (.cons_cons _ (List.Sublist.refl _))))) (fun _ _ => r_fieldAddr (k := 7) Try.runUnderlying43 rfl Try.sizeOf3 (by decide) rfl rfl) rfl ?_
      refine d_all1 (i := 7) (by kernel_rfl) ?_
      refine b_st rfl go_none (m_store1 H 0 Try.sizeOf3 rfl rfl rfl rfl (by show 7 < 11; omega) rfl) (L' := (_ :: _ :: _ :: _)) rfl rfl (fun _ H => (H.sub (.cons _ (.cons_cons _ (.cons_cons _ (List.Sublist.refl _)))))) ?_
      intro w H
      refine d_take (i := 8) rfl (by kernel_rfl) (fun _ _ _ h => h) (H.sub (.cons _ (.cons_cons _ (.cons_cons _ (List.Sublist.refl _))))) (fun _ _ => r_fieldAddr (k := 8) Try.runUnderlying43 rfl Try.sizeOf3 (by decide) rfl rfl) rfl ?_
      refine d_all1 (i := 9) (by kernel_rfl) ?_
      refine b_st rfl go_none (m_store1 H 0 Try.sizeOf3 rfl rfl rfl rfl (by show 8 < 11; omega) rfl) (L' := (_ :: _ :: _ :: _)) rfl rfl (fun _ H => (H.sub (.cons _ (.cons_cons _ (.cons_cons _ (List.Sublist.refl _)))))) ?_
      intro w H
      refine d_take (i := 10) rfl (by kernel_rfl) (fun _ _ _ h => h) (H.sub (.cons _ (.cons_cons _ (.cons_cons _ (List.Sublist.refl _))))) (fun _ _ => r_fieldAddr (k := 9) Try.runUnderlying43 rfl Try.sizeOf3 (by decide) rfl rfl) rfl ?_
      refine d_all1 (i := 11) (by kernel_rfl) ?_
      refine b_st rfl go_none (m_store1 H 0 Try.sizeOf3 rfl rfl rfl rfl (by show 9 < 11; omega) (oD3_yes h30)) (L' := (_ :: _ :: _ :: _)) rfl rfl (fun _ H => (H.sub (.cons _ (.cons_cons _ (.cons_cons _ (List.Sublist.refl _)))))) ?_
      intro w H
      refine d_done (l' := [_,_,_,_,_,_,_,_,_,_,_,_,_,_,_,_,_,_,_,_,_,_,_,_,_,_,_,_,_,_,_,_,_,_,_,_,_,_,_,_,_,_,_,_,_,_,_,_,_,_,_,_,_,_,_,_,_,_,_,_,_,_,_,_,_,_,_,_,_,_]) (by kernel_rfl) rfl ?_
      exact ⟨_, rfl, ⟨_,_,_,_,_,_,_,_,_,_,_, rfl, H⟩⟩
     ·skip
      rw [← oD3_no h30] at H
      refine wp_skip ?_
      exact ⟨_, rfl, ⟨_,_,_,_,_,_,_,_,_,_,_, rfl, H⟩⟩
    ·skip
     rintro l w ⟨u29, u30, u31, u32, u33, u34, u35, u36, u37, u38, u39, hl, H⟩
     obtain rfl := hl.trans (rfl : _ = [_,_,_,_,_,_,_,_,_,_,_,_,_,_,_,_,_,_,_,_,_,_,_,_,_,_,_,_,_,_,_,_,_,_,_,_,_,_,_,_,_,_,_,_,_,_,_,_,_,_,_,_,_,_,_,_,_,_,_,_,_,_,_,_,_,_,_,_,_,_])
     clear hl
     refine c_cut (fun (l0 : List Value) (l : List Value) (w : World) => ∃ (u40 u41 u42 u43 u44 : Value) , l = ovr l0 [N_, N_, N_, N_, N_, N_, N_, N_, N_, N_, N_, N_, N_, N_, N_, N_, N_, N_, N_, N_, N_, N_, N_, N_, N_, N_, N_, N_, N_, N_, N_, N_, N_, N_, N_, N_, N_, N_, N_, N_, Y_ u40, Y_ u41, Y_ u42, Y_ u43, Y_ u44] ∧ St w0 [] w [(b5, .cells (ceC (onlyF y)).toArray 43 (0, 0)), (b3, .cells (ptC (kPl y.kind) (kRf y.kind) (kMi y.kind) (kBo y.kind)).toArray 121 (0, 0)), (b1, .cells (ceC y).toArray 43 (0, 0))]) ?_ ?_
     ·skip
      refine c_rseq (n := 70) ⟨rfl, rfl⟩ ?_
      refine s_val (r_fieldAddr (k := 3) Try.runUnderlying121 rfl Try.sizeOf4 (by decide) rfl rfl) ?_
      refine s_val (r_load1 Try.isAgg4 rfl (H.at 1 rfl) rfl) ?_
      refine c_nil (l' := [_,_,_,_,_,_,_,_,_,_,_,_,_,_,_,_,_,_,_,_,_,_,_,_,_,_,_,_,_,_,_,_,_,_,_,_,_,_,_,_,_,_,_,_,_,_,_,_,_,_,_,_,_,_,_,_,_,_,_,_,_,_,_,_,_,_,_,_,_,_]) rfl ?_
      refine c_ifb rfl (fun h41 => ?_) (fun h41 => ?_)
      ·skip
       refine c_region (n := 70) ⟨rfl, rfl⟩ ?_
       refine s_val (r_fieldAddr (k := 10) Try.runUnderlying43 rfl Try.sizeOf41 (by decide) rfl rfl) ?_
       refine s_val (r_load1 Try.isAgg41 rfl (H.at 2 rfl) rfl) ?_
       refine s_val (r_fieldAddr (k := 10) Try.runUnderlying43 rfl Try.sizeOf41 (by decide) rfl rfl) ?_
       refine s_st (m_store1 H 0 Try.sizeOf41 rfl rfl rfl rfl (by show 10 < 11; omega) (oD4_yes h41)) (L' := (_ :: _ :: _ :: _)) rfl ?_
       intro w H
       refine c_nil0 (l' := [_,_,_,_,_,_,_,_,_,_,_,_,_,_,_,_,_,_,_,_,_,_,_,_,_,_,_,_,_,_,_,_,_,_,_,_,_,_,_,_,_,_,_,_,_,_,_,_,_,_,_,_,_,_,_,_,_,_,_,_,_,_,_,_,_,_,_,_,_,_]) rfl ?_
       exact ⟨_, rfl, ⟨_,_,_,_,_, rfl, H⟩⟩
      ·skip
       rw [← oD4_no h41] at H
       refine wp_skip ?_
       exact ⟨_, rfl, ⟨_,_,_,_,_, rfl, H⟩⟩
     ·skip
      rintro l w ⟨u40, u41, u42, u43, u44, hl, H⟩
      obtain rfl := hl.trans (rfl : _ = [_,_,_,_,_,_,_,_,_,_,_,_,_,_,_,_,_,_,_,_,_,_,_,_,_,_,_,_,_,_,_,_,_,_,_,_,_,_,_,_,_,_,_,_,_,_,_,_,_,_,_,_,_,_,_,_,_,_,_,_,_,_,_,_,_,_,_,_,_,_])
      clear hl
      refine c_rseq (n := 70) ⟨rfl, rfl⟩ ?_
      refine s_val (r_move rfl) ?_
      refine s_val (r_move rfl) ?_
      refine g_yes rfl rfl ?_
      refine s_val (r_loadn Try.isAgg43 Try.sizeOf43 rfl (H.at 2 rfl) (by first | exact (kC_td _) | exact (hC_td _) | exact (hC_seed _) | exact (ceC_td _) | exact (ceC_place _) | exact (ptC_td _ _ _ _) | exact (plV_td _ _ _)) (by first | exact (kC_length _) | exact (hC_length _) | exact (ceC_length _) | exact (ptC_length _ _ _ _) | exact (plV_length _ _ _) | exact rfl)) ?_
      refine g_yes rfl rfl ?_
      refine s_val (r_loadn Try.isAgg43 Try.sizeOf43 rfl (H.at 0 rfl) (by first | exact (kC_td _) | exact (hC_td _) | exact (hC_seed _) | exact (ceC_td _) | exact (ceC_place _) | exact (ptC_td _ _ _ _) | exact (plV_td _ _ _)) (by first | exact (kC_length _) | exact (hC_length _) | exact (ceC_length _) | exact (ptC_length _ _ _ _) | exact (plV_length _ _ _) | exact rfl)) ?_
      refine g_yes rfl rfl ?_
      refine s_call (r_call Try.call65 (ec rfl (ec rfl en))) (csame_spec y (onlyF y) _ (hy.st (H.sub (List.nil_sublist _))) (onlyF_row (hy.st (H.sub (List.nil_sublist _))))) ?_
      rintro v w (⟨hy49, rfl, HC⟩ | ⟨hy49, rfl, HC⟩)
      ·skip
       replace H := H.quiet HC
       refine s_val (r_pickt rfl rfl) ?_
       refine s_val (r_move rfl) ?_
       refine g_yes rfl rfl ?_
       refine s_val (r_fieldAddr (k := 1) Try.runUnderlying43 rfl Try.sizeOf28 (by decide) rfl rfl) ?_
       refine g_yes rfl rfl ?_
       refine s_val (r_load1 Try.isAgg28 rfl (H.at 2 rfl) rfl) ?_
       refine g_yes rfl rfl ?_
       refine s_test (r_geq rfl rfl) (fun h54 => ?_) (fun h54 => ?_)
       ·skip
        refine s_val (r_pickt rfl rfl) ?_
        refine s_val (r_move rfl) ?_
        refine g_yes rfl rfl ?_
        refine s_val (r_fieldAddr (k := 1) Try.runUnderlying43 rfl Try.sizeOf28 (by decide) rfl rfl) ?_
        refine g_yes rfl rfl ?_
        refine s_val (r_load1 Try.isAgg28 rfl (H.at 2 rfl) rfl) ?_
        refine g_yes rfl rfl ?_
        refine s_test (r_leq rfl rfl) (fun h59 => ?_) (fun h59 => ?_)
        ·skip
         refine s_val (r_pickt rfl rfl) ?_
         refine s_val (r_move rfl) ?_
         refine g_yes rfl rfl ?_
         refine s_val (r_fieldAddr (k := 2) Try.runUnderlying43 rfl Try.sizeOf3 (by decide) rfl rfl) ?_
         refine g_yes rfl rfl ?_
         refine s_val (r_load1 Try.isAgg3 rfl (H.at 2 rfl) rfl) ?_
         refine g_yes rfl rfl ?_
         refine s_call (r_call Try.call66 (ec rfl (ec rfl en))) (within_spec _ _ _) ?_
         rintro v w (⟨hy64, rfl, HC⟩ | ⟨hy64, rfl, HC⟩)
         ·skip
          replace H := H.quiet HC
          refine s_val (r_pickt rfl rfl) ?_
          refine s_val (r_move rfl) ?_
          refine g_yes rfl rfl ?_
          refine s_val (r_loadn Try.isAgg43 Try.sizeOf43 rfl (H.at 2 rfl) (by first | exact (kC_td _) | exact (hC_td _) | exact (hC_seed _) | exact (ceC_td _) | exact (ceC_place _) | exact (ptC_td _ _ _ _) | exact (plV_td _ _ _)) (by first | exact (kC_length _) | exact (hC_length _) | exact (ceC_length _) | exact (ptC_length _ _ _ _) | exact (plV_length _ _ _) | exact rfl)) ?_
          refine g_yes rfl rfl ?_
          refine s_call (r_call Try.call67 (ec rfl en)) (fields_spec y _) ?_
          rintro v w (⟨hy68, rfl, HC⟩ | ⟨hy68, rfl, HC⟩)
          ·skip
           replace H := H.quiet HC
           refine s_val (r_pickt rfl rfl) ?_
           refine s_val (r_assign rfl) ?_
           refine c_nil (l' := [_,_,_,_,_,_,_,_,_,_,_,_,_,_,_,_,_,_,_,_,_,_,_,_,_,_,_,_,_,_,_,_,_,_,_,_,_,_,_,_,_,_,_,_,_,_,_,_,_,_,_,_,_,_,_,_,_,_,_,_,_,_,_,_,_,_,_,_,_,_]) rfl ?_
           refine wp_ret ?_
           refine e_ret (res1 rfl rfl) ⟨_, rfl, ?_⟩
           exact .inl ⟨⟨hok, (onlyF_eq y).1 hy49, h54, h59, hy64, hy68⟩, rfl, H.sub (List.nil_sublist _)⟩
          ·skip
           replace H := H.quiet HC
           refine s_val (r_pickt rfl rfl) ?_
           refine s_val (r_assign rfl) ?_
           refine c_nil (l' := [_,_,_,_,_,_,_,_,_,_,_,_,_,_,_,_,_,_,_,_,_,_,_,_,_,_,_,_,_,_,_,_,_,_,_,_,_,_,_,_,_,_,_,_,_,_,_,_,_,_,_,_,_,_,_,_,_,_,_,_,_,_,_,_,_,_,_,_,_,_]) rfl ?_
           refine wp_ret ?_
           refine e_ret (res1 rfl rfl) ⟨_, rfl, ?_⟩
           exact .inr ⟨fun h => hy68 h.2.2.2.2.2, rfl, H.sub (List.nil_sublist _)⟩
         ·skip
          replace H := H.quiet HC
          refine s_val (r_pickt rfl rfl) ?_
          refine s_val (r_move rfl) ?_
          refine g_no rfl rfl (by decide) ?_
          refine g_no rfl rfl (by decide) ?_
          refine s_val (r_pickf rfl rfl) ?_
          refine s_val (r_assign rfl) ?_
          refine c_nil (l' := [_,_,_,_,_,_,_,_,_,_,_,_,_,_,_,_,_,_,_,_,_,_,_,_,_,_,_,_,_,_,_,_,_,_,_,_,_,_,_,_,_,_,_,_,_,_,_,_,_,_,_,_,_,_,_,_,_,_,_,_,_,_,_,_,_,_,_,_,_,_]) rfl ?_
          refine wp_ret ?_
          refine e_ret (res1 rfl rfl) ⟨_, rfl, ?_⟩
          exact .inr ⟨fun h => hy64 h.2.2.2.2.1, rfl, H.sub (List.nil_sublist _)⟩
        ·skip
         refine s_val (r_pickt rfl rfl) ?_
         refine s_val (r_move rfl) ?_
         refine g_no rfl rfl (by decide) ?_
         refine g_no rfl rfl (by decide) ?_
         refine g_no rfl rfl (by decide) ?_
         refine s_val (r_pickf rfl rfl) ?_
         refine s_val (r_move rfl) ?_
         refine g_no rfl rfl (by decide) ?_
         refine g_no rfl rfl (by decide) ?_
         refine s_val (r_pickf rfl rfl) ?_
         refine s_val (r_assign rfl) ?_
         refine c_nil (l' := [_,_,_,_,_,_,_,_,_,_,_,_,_,_,_,_,_,_,_,_,_,_,_,_,_,_,_,_,_,_,_,_,_,_,_,_,_,_,_,_,_,_,_,_,_,_,_,_,_,_,_,_,_,_,_,_,_,_,_,_,_,_,_,_,_,_,_,_,_,_]) rfl ?_
         refine wp_ret ?_
         refine e_ret (res1 rfl rfl) ⟨_, rfl, ?_⟩
         exact .inr ⟨fun h => h59 h.2.2.2.1, rfl, H.sub (List.nil_sublist _)⟩
       ·skip
        refine s_val (r_pickt rfl rfl) ?_
        refine s_val (r_move rfl) ?_
        refine g_no rfl rfl (by decide) ?_
        refine g_no rfl rfl (by decide) ?_
        refine g_no rfl rfl (by decide) ?_
        refine s_val (r_pickf rfl rfl) ?_
        refine s_val (r_move rfl) ?_
        refine g_no rfl rfl (by decide) ?_
        refine g_no rfl rfl (by decide) ?_
        refine g_no rfl rfl (by decide) ?_
        refine s_val (r_pickf rfl rfl) ?_
        refine s_val (r_move rfl) ?_
        refine g_no rfl rfl (by decide) ?_
        refine g_no rfl rfl (by decide) ?_
        refine s_val (r_pickf rfl rfl) ?_
        refine s_val (r_assign rfl) ?_
        refine c_nil (l' := [_,_,_,_,_,_,_,_,_,_,_,_,_,_,_,_,_,_,_,_,_,_,_,_,_,_,_,_,_,_,_,_,_,_,_,_,_,_,_,_,_,_,_,_,_,_,_,_,_,_,_,_,_,_,_,_,_,_,_,_,_,_,_,_,_,_,_,_,_,_]) rfl ?_
        refine wp_ret ?_
        refine e_ret (res1 rfl rfl) ⟨_, rfl, ?_⟩
        exact .inr ⟨fun h => h54 h.2.2.1, rfl, H.sub (List.nil_sublist _)⟩
      ·skip
       replace H := H.quiet HC
       refine s_val (r_pickt rfl rfl) ?_
       refine s_val (r_move rfl) ?_
       refine g_no rfl rfl (by decide) ?_
       refine g_no rfl rfl (by decide) ?_
       refine g_no rfl rfl (by decide) ?_
       refine s_val (r_pickf rfl rfl) ?_
       refine s_val (r_move rfl) ?_
       refine g_no rfl rfl (by decide) ?_
       refine g_no rfl rfl (by decide) ?_
       refine g_no rfl rfl (by decide) ?_
       refine s_val (r_pickf rfl rfl) ?_
       refine s_val (r_move rfl) ?_
       refine g_no rfl rfl (by decide) ?_
       refine g_no rfl rfl (by decide) ?_
       refine g_no rfl rfl (by decide) ?_
       refine s_val (r_pickf rfl rfl) ?_
       refine s_val (r_move rfl) ?_
       refine g_no rfl rfl (by decide) ?_
       refine g_no rfl rfl (by decide) ?_
       refine s_val (r_pickf rfl rfl) ?_
       refine s_val (r_assign rfl) ?_
       refine c_nil (l' := [_,_,_,_,_,_,_,_,_,_,_,_,_,_,_,_,_,_,_,_,_,_,_,_,_,_,_,_,_,_,_,_,_,_,_,_,_,_,_,_,_,_,_,_,_,_,_,_,_,_,_,_,_,_,_,_,_,_,_,_,_,_,_,_,_,_,_,_,_,_]) rfl ?_
       refine wp_ret ?_
       refine e_ret (res1 rfl rfl) ⟨_, rfl, ?_⟩
       exact .inr ⟨fun h => hy49 ((onlyF_eq y).2 h.2.1), rfl, H.sub (List.nil_sublist _)⟩
 ·skip
  replace H := H.quiet HC
  refine s_val (r_move rfl) ?_
  refine s_val (r_extract rfl rfl) ?_
  refine s_val (r_extract rfl rfl) ?_
  refine s_new (m_alloc (cs := (ptC false false false false)) H Try.zeroValue121 rfl) ?_
  intro w b3 H
  refine s_st (m_storen H 0 4 Try.sizeOf121 rfl rfl (by first | exact (kC_length _) | exact (hC_length _) | exact (ceC_length _) | exact (ptC_length _ _ _ _) | exact (plV_length _ _ _)) (by first | exact (kC_one _) | exact (hC_one _) | exact (ceC_one _) | exact (ptC_one _ _ _ _) | exact (plV_one _ _ _)) rfl (by show 0 + 4 ≤ 4; omega) (rfl : _ = ptC (kPl y.kind) (kRf y.kind) (kMi y.kind) (kBo y.kind))) (L' := (_ :: _ :: _)) rfl ?_
  intro w H
  refine s_val (r_assign rfl) ?_
  refine c_nil (l' := [_,_,_,_,_,_,_,_,_,_,_,_,_,_,_,_,_,_,_,_,_,_,_,_,_,_,_,_,_,_,_,_,_,_,_,_,_,_,_,_,_,_,_,_,_,_,_,_,_,_,_,_,_,_,_,_,_,_,_,_,_,_,_,_,_,_,_,_,_,_]) rfl ?_
  refine c_rseq (n := 70) ⟨rfl, rfl⟩ ?_
  refine s_val (r_fieldAddr (k := 0) Try.runUnderlying43 rfl Try.sizeOf3 (by decide) rfl rfl) ?_
  refine s_val (r_load1 Try.isAgg3 rfl (H.at 1 rfl) rfl) ?_
  refine s_val (r_fieldAddr (k := 1) Try.runUnderlying43 rfl Try.sizeOf28 (by decide) rfl rfl) ?_
  refine s_val (r_load1 Try.isAgg28 rfl (H.at 1 rfl) rfl) ?_
  refine s_val (r_fieldAddr (k := 2) Try.runUnderlying43 rfl Try.sizeOf3 (by decide) rfl rfl) ?_
  refine s_val (r_load1 Try.isAgg3 rfl (H.at 1 rfl) rfl) ?_
  refine s_val (r_buildS Try.runUnderlying43 Try.zeroValue43 places43 (pc rfl (pc rfl (pc rfl pn))) (rfl : fillL _ _ _ = some (ceC (oD0 y)))) ?_
  refine s_new (m_alloc (cs := (ceC ce0)) H Try.zeroValue43 rfl) ?_
  intro w b5 H
  refine s_st (m_storen H 0 11 Try.sizeOf43 rfl rfl (by first | exact (kC_length _) | exact (hC_length _) | exact (ceC_length _) | exact (ptC_length _ _ _ _) | exact (plV_length _ _ _)) (by first | exact (kC_one _) | exact (hC_one _) | exact (ceC_one _) | exact (ptC_one _ _ _ _) | exact (plV_one _ _ _)) rfl (by show 0 + 11 ≤ 11; omega) (ceC_sp _ _)) (L' := (_ :: _ :: _ :: _)) rfl ?_
  intro w H
  refine c_nil (l' := [_,_,_,_,_,_,_,_,_,_,_,_,_,_,_,_,_,_,_,_,_,_,_,_,_,_,_,_,_,_,_,_,_,_,_,_,_,_,_,_,_,_,_,_,_,_,_,_,_,_,_,_,_,_,_,_,_,_,_,_,_,_,_,_,_,_,_,_,_,_]) rfl ?_
  refine c_cut (fun (l0 : List Value) (l : List Value) (w : World) => ∃ (u19 u20 u21 u22 u23 : Value) , l = ovr l0 [N_, N_, N_, N_, N_, N_, N_, N_, N_, N_, N_, N_, N_, N_, N_, N_, N_, N_, N_, Y_ u19, Y_ u20, Y_ u21, Y_ u22, Y_ u23] ∧ St w0 [] w [(b5, .cells (ceC (oD1 y)).toArray 43 (0, 0)), (b3, .cells (ptC (kPl y.kind) (kRf y.kind) (kMi y.kind) (kBo y.kind)).toArray 121 (0, 0)), (b1, .cells (ceC y).toArray 43 (0, 0))]) ?_ ?_
  ·skip
   refine c_rseq (n := 70) ⟨rfl, rfl⟩ ?_
   refine s_val (r_fieldAddr (k := 0) Try.runUnderlying121 rfl Try.sizeOf4 (by decide) rfl rfl) ?_
   refine s_val (r_load1 Try.isAgg4 rfl (H.at 1 rfl) rfl) ?_
   refine c_nil (l' := [_,_,_,_,_,_,_,_,_,_,_,_,_,_,_,_,_,_,_,_,_,_,_,_,_,_,_,_,_,_,_,_,_,_,_,_,_,_,_,_,_,_,_,_,_,_,_,_,_,_,_,_,_,_,_,_,_,_,_,_,_,_,_,_,_,_,_,_,_,_]) rfl ?_
   refine c_ifb rfl (fun h20 => ?_) (fun h20 => ?_)
   ·skip
    refine c_region (n := 70) ⟨rfl, rfl⟩ ?_
    refine s_val (r_fieldAddr (k := 3) Try.runUnderlying43 rfl Try.sizeOf40 (by decide) rfl rfl) ?_
    refine s_val (r_loadn Try.isAgg40 Try.sizeOf40 rfl (H.at 2 rfl) (ceC_place _) (by first | exact (kC_length _) | exact (hC_length _) | exact (ceC_length _) | exact (ptC_length _ _ _ _) | exact (plV_length _ _ _) | exact rfl)) ?_
    refine s_val (r_fieldAddr (k := 3) Try.runUnderlying43 rfl Try.sizeOf40 (by decide) rfl rfl) ?_
    refine s_st (m_storen H 0 3 Try.sizeOf40 rfl rfl (by first | exact (kC_length _) | exact (hC_length _) | exact (ceC_length _) | exact (ptC_length _ _ _ _) | exact (plV_length _ _ _)) (by first | exact (kC_one _) | exact (hC_one _) | exact (ceC_one _) | exact (ptC_one _ _ _ _) | exact (plV_one _ _ _)) rfl (by show 3 + 3 ≤ 11; omega) (oD1_yes h20)) (L' := (_ :: _ :: _ :: _)) rfl ?_
    intro w H
    refine c_nil0 (l' := [_,_,_,_,_,_,_,_,_,_,_,_,_,_,_,_,_,_,_,_,_,_,_,_,_,_,_,_,_,_,_,_,_,_,_,_,_,_,_,_,_,_,_,_,_,_,_,_,_,_,_,_,_,_,_,_,_,_,_,_,_,_,_,_,_,_,_,_,_,_]) rfl ?_
    exact ⟨_, rfl, ⟨_,_,_,_,_, rfl, H⟩⟩
   ·skip
    rw [← oD1_no h20] at H
    refine wp_skip ?_
    exact ⟨_, rfl, ⟨_,_,_,_,_, rfl, H⟩⟩
  ·skip
   rintro l w ⟨u19, u20, u21, u22, u23, hl, H⟩
   obtain rfl := hl.trans (rfl : _ = [_,_,_,_,_,_,_,_,_,_,_,_,_,_,_,_,_,_,_,_,_,_,_,_,_,_,_,_,_,_,_,_,_,_,_,_,_,_,_,_,_,_,_,_,_,_,_,_,_,_,_,_,_,_,_,_,_,_,_,_,_,_,_,_,_,_,_,_,_,_])
   clear hl
   refine c_cut (fun (l0 : List Value) (l : List Value) (w : World) => ∃ (u24 u25 u26 u27 u28 : Value) , l = ovr l0 [N_, N_, N_, N_, N_, N_, N_, N_, N_, N_, N_, N_, N_, N_, N_, N_, N_, N_, N_, N_, N_, N_, N_, N_, Y_ u24, Y_ u25, Y_ u26, Y_ u27, Y_ u28] ∧ St w0 [] w [(b5, .cells (ceC (oD2 y)).toArray 43 (0, 0)), (b3, .cells (ptC (kPl y.kind) (kRf y.kind) (kMi y.kind) (kBo y.kind)).toArray 121 (0, 0)), (b1, .cells (ceC y).toArray 43 (0, 0))]) ?_ ?_
   ·skip
    refine c_rseq (n := 70) ⟨rfl, rfl⟩ ?_
    refine s_val (r_fieldAddr (k := 1) Try.runUnderlying121 rfl Try.sizeOf4 (by decide) rfl rfl) ?_
    refine s_val (r_load1 Try.isAgg4 rfl (H.at 1 rfl) rfl) ?_
    refine c_nil (l' := [_,_,_,_,_,_,_,_,_,_,_,_,_,_,_,_,_,_,_,_,_,_,_,_,_,_,_,_,_,_,_,_,_,_,_,_,_,_,_,_,_,_,_,_,_,_,_,_,_,_,_,_,_,_,_,_,_,_,_,_,_,_,_,_,_,_,_,_,_,_]) rfl ?_
    refine c_ifb rfl (fun h25 => ?_) (fun h25 => ?_)
    ·skip
     refine c_region (n := 70) ⟨rfl, rfl⟩ ?_
     refine s_val (r_fieldAddr (k := 6) Try.runUnderlying43 rfl Try.sizeOf28 (by decide) rfl rfl) ?_
     refine s_val (r_load1 Try.isAgg28 rfl (H.at 2 rfl) rfl) ?_
     refine s_val (r_fieldAddr (k := 6) Try.runUnderlying43 rfl Try.sizeOf28 (by decide) rfl rfl) ?_
     refine s_st (m_store1 H 0 Try.sizeOf28 rfl rfl rfl rfl (by show 6 < 11; omega) (oD2_yes h25)) (L' := (_ :: _ :: _ :: _)) rfl ?_
     intro w H
     refine c_nil0 (l' := [_,_,_,_,_,_,_,_,_,_,_,_,_,_,_,_,_,_,_,_,_,_,_,_,_,_,_,_,_,_,_,_,_,_,_,_,_,_,_,_,_,_,_,_,_,_,_,_,_,_,_,_,_,_,_,_,_,_,_,_,_,_,_,_,_,_,_,_,_,_]) rfl ?_
     exact ⟨_, rfl, ⟨_,_,_,_,_, rfl, H⟩⟩
    ·skip
     rw [← oD2_no h25] at H
     refine wp_skip ?_
     exact ⟨_, rfl, ⟨_,_,_,_,_, rfl, H⟩⟩
   ·skip
    rintro l w ⟨u24, u25, u26, u27, u28, hl, H⟩
    obtain rfl := hl.trans (rfl : _ = [_,_,_,_,_,_,_,_,_,_,_,_,_,_,_,_,_,_,_,_,_,_,_,_,_,_,_,_,_,_,_,_,_,_,_,_,_,_,_,_,_,_,_,_,_,_,_,_,_,_,_,_,_,_,_,_,_,_,_,_,_,_,_,_,_,_,_,_,_,_])
    clear hl
    refine c_cut (fun (l0 : List Value) (l : List Value) (w : World) => ∃ (u29 u30 u31 u32 u33 u34 u35 u36 u37 u38 u39 : Value) , l = ovr l0 [N_, N_, N_, N_, N_, N_, N_, N_, N_, N_, N_, N_, N_, N_, N_, N_, N_, N_, N_, N_, N_, N_, N_, N_, N_, N_, N_, N_, N_, Y_ u29, Y_ u30, Y_ u31, Y_ u32, Y_ u33, Y_ u34, Y_ u35, Y_ u36, Y_ u37, Y_ u38, Y_ u39] ∧ St w0 [] w [(b5, .cells (ceC (oD3 y)).toArray 43 (0, 0)), (b3, .cells (ptC (kPl y.kind) (kRf y.kind) (kMi y.kind) (kBo y.kind)).toArray 121 (0, 0)), (b1, .cells (ceC y).toArray 43 (0, 0))]) ?_ ?_
    ·skip
     refine c_rseq (n := 70) ⟨rfl, rfl⟩ ?_
     refine s_val (r_fieldAddr (k := 2) Try.runUnderlying121 rfl Try.sizeOf4 (by decide) rfl rfl) ?_
     refine s_val (r_load1 Try.isAgg4 rfl (H.at 1 rfl) rfl) ?_
     refine c_nil (l' := [_,_,_,_,_,_,_,_,_,_,_,_,_,_,_,_,_,_,_,_,_,_,_,_,_,_,_,_,_,_,_,_,_,_,_,_,_,_,_,_,_,_,_,_,_,_,_,_,_,_,_,_,_,_,_,_,_,_,_,_,_,_,_,_,_,_,_,_,_,_]) rfl ?_
     refine c_ifb rfl (fun h30 => ?_) (fun h30 => ?_)
     ·skip
      refine d_begin (sz := 70) ⟨rfl, rfl⟩ (by kernel_rfl) H (H.sub (.cons _ (.cons_cons _ (.cons_cons _ (List.Sublist.refl _))))) rfl ?_
      intro w H
      refine d_take (i := 0) rfl (by kernel_rfl) (fun _ _ _ h => h) (H.sub (.cons _ (.cons_cons _ (.cons_cons _ (List.Sublist.refl _))))) (fun _ _ => r_fieldAddr (k := 7) Try.runUnderlying43 rfl Try.sizeOf3 (by decide) rfl rfl) rfl ?_
      refine d_take (i := 1) rfl (by kernel_rfl) (fun _ _ _ h => h) (H.sub (.cons _ (.cons_cons _ (.cons_cons _ (List.Sublist.refl _))))) (fun _ HS => r_load1 Try.isAgg3 rfl (HS.at 1 rfl) rfl) rfl ?_
      refine d_take (i := 2) rfl (by kernel_rfl) (fun _ _ _ h => h) (H.sub (.cons _ (.cons_cons _ (.cons_cons _ (List.Sublist.refl _))))) (fun _ _ => r_fieldAddr (k := 8) Try.runUnderlying43 rfl Try.sizeOf3 (by decide) rfl rfl) rfl ?_
      refine d_take (i := 3) rfl (by kernel_rfl) (fun _ _ _ h => h) (H.sub (.cons _ (.cons_cons _ (.cons_cons _ (List.Sublist.refl _))))) (fun _ HS => r_load1 Try.isAgg3 rfl (HS.at 1 rfl) rfl) rfl ?_
      refine d_take (i := 4) rfl (by kernel_rfl) (fun _ _ _ h => h) (H.sub (.cons _ (.cons_cons _ (.cons_cons _ (List.Sublist.refl _))))) (fun _ _ => r_fieldAddr (k := 9) Try.runUnderlying43 rfl Try.sizeOf3 (by decide) rfl rfl) rfl ?_
      refine d_take (i := 5) rfl (by kernel_rfl) (fun _ _ _ h => h) (H.sub (.cons _ (.cons_cons _ (.cons_cons _ (List.Sublist.refl _))))) (fun _ HS => r_load1 Try.isAgg3 rfl (HS.at 1 rfl) rfl) rfl ?_
      refine d_take (i := 6) rfl (by kernel_rfl) (fun _ _ _ h => h) (H.sub (.cons _ (.cons_cons _ (.cons_cons _ (List.Sublist.refl _))))) (fun _ _ => r_fieldAddr (k := 7) Try.runUnderlying43 rfl Try.sizeOf3 (by decide) rfl rfl) rfl ?_
      refine d_all1 (i := 7) (by kernel_rfl) ?_
      refine b_st rfl go_none (m_store1 H 0 Try.sizeOf3 rfl rfl rfl rfl (by show 7 < 11; omega) rfl) (L' := (_ :: _ :: _ :: _)) rfl rfl (fun _ H => (H.sub (.cons _ (.cons_cons _ (.cons_cons _ (List.Sublist.refl _)))))) ?_
      intro w H
      refine d_take (i := 8) rfl (by kernel_rfl) (fun _ _ _ h => h) (H.sub (.cons _ (.cons_cons _ (.cons_cons _ (List.Sublist.refl _))))) (fun _ _ => r_fieldAddr (k := 8) Try.runUnderlying43 rfl Try.sizeOf3 (by decide) rfl rfl) rfl ?_
      refine d_all1 (i := 9) (by kernel_rfl) ?_
      refine b_st rfl go_none (m_store1 H 0 Try.sizeOf3 rfl rfl rfl rfl (by show 8 < 11; omega) rfl) (L' := (_ :: _ :: _ :: _)) rfl rfl (fun _ H => (H.sub (.cons _ (.cons_cons _ (.cons_cons _ (List.Sublist.refl _)))))) ?_
      intro w H
      refine d_take (i := 10) rfl (by kernel_rfl) (fun _ _ _ h => h) (H.sub (.cons _ (.cons_cons _ (.cons_cons _ (List.Sublist.refl _))))) (fun _ _ => r_fieldAddr (k := 9) Try.runUnderlying43 rfl Try.sizeOf3 (by decide) rfl rfl) rfl ?_
      refine d_all1 (i := 11) (by kernel_rfl) ?_
      refine b_st rfl go_none (m_store1 H 0 Try.sizeOf3 rfl rfl rfl rfl (by show 9 < 11; omega) (oD3_yes h30)) (L' := (_ :: _ :: _ :: _)) rfl rfl (fun _ H => (H.sub (.cons _ (.cons_cons _ (.cons_cons _ (List.Sublist.refl _)))))) ?_
      intro w H
      refine d_done (l' := [_,_,_,_,_,_,_,_,_,_,_,_,_,_,_,_,_,_,_,_,_,_,_,_,_,_,_,_,_,_,_,_,_,_,_,_,_,_,_,_,_,_,_,_,_,_,_,_,_,_,_,_,_,_,_,_,_,_,_,_,_,_,_,_,_,_,_,_,_,_]) (by kernel_rfl) rfl ?_
      exact ⟨_, rfl, ⟨_,_,_,_,_,_,_,_,_,_,_, rfl, H⟩⟩
     ·skip
      rw [← oD3_no h30] at H
      refine wp_skip ?_
      exact ⟨_, rfl, ⟨_,_,_,_,_,_,_,_,_,_,_, rfl, H⟩⟩
    ·skip
     rintro l w ⟨u29, u30, u31, u32, u33, u34, u35, u36, u37, u38, u39, hl, H⟩
     obtain rfl := hl.trans (rfl : _ = [_,_,_,_,_,_,_,_,_,_,_,_,_,_,_,_,_,_,_,_,_,_,_,_,_,_,_,_,_,_,_,_,_,_,_,_,_,_,_,_,_,_,_,_,_,_,_,_,_,_,_,_,_,_,_,_,_,_,_,_,_,_,_,_,_,_,_,_,_,_])
     clear hl
     refine c_cut (fun (l0 : List Value) (l : List Value) (w : World) => ∃ (u40 u41 u42 u43 u44 : Value) , l = ovr l0 [N_, N_, N_, N_, N_, N_, N_, N_, N_, N_, N_, N_, N_, N_, N_, N_, N_, N_, N_, N_, N_, N_, N_, N_, N_, N_, N_, N_, N_, N_, N_, N_, N_, N_, N_, N_, N_, N_, N_, N_, Y_ u40, Y_ u41, Y_ u42, Y_ u43, Y_ u44] ∧ St w0 [] w [(b5, .cells (ceC (onlyF y)).toArray 43 (0, 0)), (b3, .cells (ptC (kPl y.kind) (kRf y.kind) (kMi y.kind) (kBo y.kind)).toArray 121 (0, 0)), (b1, .cells (ceC y).toArray 43 (0, 0))]) ?_ ?_
     ·skip
      refine c_rseq (n := 70) ⟨rfl, rfl⟩ ?_
      refine s_val (r_fieldAddr (k := 3) Try.runUnderlying121 rfl Try.sizeOf4 (by decide) rfl rfl) ?_
      refine s_val (r_load1 Try.isAgg4 rfl (H.at 1 rfl) rfl) ?_
      refine c_nil (l' := [_,_,_,_,_,_,_,_,_,_,_,_,_,_,_,_,_,_,_,_,_,_,_,_,_,_,_,_,_,_,_,_,_,_,_,_,_,_,_,_,_,_,_,_,_,_,_,_,_,_,_,_,_,_,_,_,_,_,_,_,_,_,_,_,_,_,_,_,_,_]) rfl ?_
      refine c_ifb rfl (fun h41 => ?_) (fun h41 => ?_)
      ·skip
       refine c_region (n := 70) ⟨rfl, rfl⟩ ?_
       refine s_val (r_fieldAddr (k := 10) Try.runUnderlying43 rfl Try.sizeOf41 (by decide) rfl rfl) ?_
       refine s_val (r_load1 Try.isAgg41 rfl (H.at 2 rfl) rfl) ?_
       refine s_val (r_fieldAddr (k := 10) Try.runUnderlying43 rfl Try.sizeOf41 (by decide) rfl rfl) ?_
       refine s_st (m_store1 H 0 Try.sizeOf41 rfl rfl rfl rfl (by show 10 < 11; omega) (oD4_yes h41)) (L' := (_ :: _ :: _ :: _)) rfl ?_
       intro w H
       refine c_nil0 (l' := [_,_,_,_,_,_,_,_,_,_,_,_,_,_,_,_,_,_,_,_,_,_,_,_,_,_,_,_,_,_,_,_,_,_,_,_,_,_,_,_,_,_,_,_,_,_,_,_,_,_,_,_,_,_,_,_,_,_,_,_,_,_,_,_,_,_,_,_,_,_]) rfl ?_
       exact ⟨_, rfl, ⟨_,_,_,_,_, rfl, H⟩⟩
      ·skip
       rw [← oD4_no h41] at H
       refine wp_skip ?_
       exact ⟨_, rfl, ⟨_,_,_,_,_, rfl, H⟩⟩
     ·skip
      rintro l w ⟨u40, u41, u42, u43, u44, hl, H⟩
      obtain rfl := hl.trans (rfl : _ = [_,_,_,_,_,_,_,_,_,_,_,_,_,_,_,_,_,_,_,_,_,_,_,_,_,_,_,_,_,_,_,_,_,_,_,_,_,_,_,_,_,_,_,_,_,_,_,_,_,_,_,_,_,_,_,_,_,_,_,_,_,_,_,_,_,_,_,_,_,_])
      clear hl
      refine c_rseq (n := 70) ⟨rfl, rfl⟩ ?_
      refine s_val (r_move rfl) ?_
      refine s_val (r_move rfl) ?_
      refine g_no rfl rfl (by decide) ?_
      refine g_no rfl rfl (by decide) ?_
      refine g_no rfl rfl (by decide) ?_
      refine s_val (r_pickf rfl rfl) ?_
      refine s_val (r_move rfl) ?_
      refine g_no rfl rfl (by decide) ?_
      refine g_no rfl rfl (by decide) ?_
      refine g_no rfl rfl (by decide) ?_
      refine s_val (r_pickf rfl rfl) ?_
      refine s_val (r_move rfl) ?_
      refine g_no rfl rfl (by decide) ?_
      refine g_no rfl rfl (by decide) ?_
      refine g_no rfl rfl (by decide) ?_
      refine s_val (r_pickf rfl rfl) ?_
      refine s_val (r_move rfl) ?_
      refine g_no rfl rfl (by decide) ?_
      refine g_no rfl rfl (by decide) ?_
      refine g_no rfl rfl (by decide) ?_
      refine s_val (r_pickf rfl rfl) ?_
      refine s_val (r_move rfl) ?_
      refine g_no rfl rfl (by decide) ?_
      refine g_no rfl rfl (by decide) ?_
      refine s_val (r_pickf rfl rfl) ?_
      refine s_val (r_assign rfl) ?_
      refine c_nil (l' := [_,_,_,_,_,_,_,_,_,_,_,_,_,_,_,_,_,_,_,_,_,_,_,_,_,_,_,_,_,_,_,_,_,_,_,_,_,_,_,_,_,_,_,_,_,_,_,_,_,_,_,_,_,_,_,_,_,_,_,_,_,_,_,_,_,_,_,_,_,_]) rfl ?_
      refine wp_ret ?_
      refine e_ret (res1 rfl rfl) ⟨_, rfl, ?_⟩
      exact .inr ⟨fun h => absurd (h.1.symm.trans hok) (by decide), rfl, H.sub (List.nil_sublist _)⟩

end Go.Proofs.Ytobfnieebiakeaa

