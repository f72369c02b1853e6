import Derived.Test.YtihpeihlpgompaaPX7
namespace Go.Proofs.Ytihpeihlpgompaa
open Go Go.Er

set_option maxHeartbeats 4000000 in
theorem encode_spec (y : Ce) (hr0 : 0 ≤ y.ref) (w0 : World) (hy : BRow w0 y.body.a y.body.b) :
  Calls Try.prog 18 #[.agg (ceC y).toArray] w0 fun e w => ∃ v, e = .returned v ∧ ((rightC (ceP y) ∧ ∃ (u : Bd) (N : List (Nat × Obj)), v = .tuple #[bdV u, .int .i64 0] ∧ u.b = encP (ceP y) ∧ RowN 1 5 (bC u.b) u.b.length u.a u.c N ∧ St w0 [] w N) ∨ (¬ rightC (ceP y) ∧ v = .tuple #[.slice none 0 0, .int .i64 3] ∧ St w0 [] w [])) := by
 have H := St.refl w0
 refine c_enter (args := [.agg (ceC y).toArray]) (l := [.agg (ceC y).toArray, undef, undef, undef, undef, undef, undef, undef, undef, undef, undef, undef, undef, undef, undef, undef, undef, undef, undef, undef, undef, undef, undef, undef, undef, undef, undef, undef, undef, undef, undef, undef, undef, undef, undef, undef, undef, undef, undef, undef, undef, undef, undef, undef, undef, undef, undef, undef, undef, undef, undef, undef, undef, undef, undef, undef, undef, undef, undef, undef, undef, undef, undef, undef, undef, undef, undef, undef, undef, undef, undef, undef, undef, undef, undef, undef, undef, undef, undef, undef, undef, undef, undef]) Try.func18 Try.ntmps18 rfl rfl ?_
 refine c_rseq (n := 83) ⟨rfl, rfl⟩ ?_
 refine s_new (m_box (cs := (ceC y)) H rfl rfl) ?_
 intro w b1 H
 refine s_val (r_assign rfl) ?_
 refine s_val (r_assign rfl) ?_
 refine c_nil (l' := [_,_,_,_,_,_,_,_,_,_,_,_,_,_,_,_,_,_,_,_,_,_,_,_,_,_,_,_,_,_,_,_,_,_,_,_,_,_,_,_,_,_,_,_,_,_,_,_,_,_,_,_,_,_,_,_,_,_,_,_,_,_,_,_,_,_,_,_,_,_,_,_,_,_,_,_,_,_,_,_,_,_,_]) rfl ?_
 refine c_seq ?_
 refine c_rseq (n := 83) ⟨rfl, rfl⟩ ?_
 refine s_val (r_loadn Try.isAgg40 Try.sizeOf40 rfl (H.at 0 rfl) (by first | exact (kC_td _) | exact (hC_td _) | exact (hC_seed _) | exact (ceC_td _) | exact (ceC_place _) | exact (ptC_td _ _ _ _) | exact (plV_td _ _ _) | exact (frC_td _) | exact (frC_cell _) | exact (fdV_td _ _ _)) (by first | exact (kC_length _) | exact (hC_length _) | exact (ceC_length _) | exact (ptC_length _ _ _ _) | exact (plV_length _ _ _) | exact (elFr.len _) | exact (frC_length _) | exact (fdV_length _ _ _) | exact rfl)) ?_
 refine s_call (r_call Try.call24 (ec rfl en)) (right_c y _ (hy.st (H.sub (List.nil_sublist _)))) ?_
 rintro v w (⟨hrt, rfl, HC⟩ | ⟨hrt, rfl, HC⟩)
 ·skip
  replace H := H.quiet HC
  obtain ⟨q1, q2, q3, q4, q5, q6, qp, qr, qm, qb⟩ := right_ce hrt hr0
  refine s_val (r_not rfl) ?_
  refine c_nil (l' := [_,_,_,_,_,_,_,_,_,_,_,_,_,_,_,_,_,_,_,_,_,_,_,_,_,_,_,_,_,_,_,_,_,_,_,_,_,_,_,_,_,_,_,_,_,_,_,_,_,_,_,_,_,_,_,_,_,_,_,_,_,_,_,_,_,_,_,_,_,_,_,_,_,_,_,_,_,_,_,_,_,_,_]) rfl ?_
  refine c_iff rfl ?_
  refine wp_skip ?_
  refine x_thenNormal ?_
  refine c_rseq (n := 83) ⟨rfl, rfl⟩ ?_
  refine s_new (m_alloc H Try.zeroValue25 rfl) ?_
  intro w b4 H
  replace H : St w0 [] w ((b1, _) :: (b4, .cells (bd1 bdZ).toArray 25 (0, 0)) :: []) := H.swp 0 rfl
  refine c_nil (l' := [_,_,_,_,_,_,_,_,_,_,_,_,_,_,_,_,_,_,_,_,_,_,_,_,_,_,_,_,_,_,_,_,_,_,_,_,_,_,_,_,_,_,_,_,_,_,_,_,_,_,_,_,_,_,_,_,_,_,_,_,_,_,_,_,_,_,_,_,_,_,_,_,_,_,_,_,_,_,_,_,_,_,_]) rfl ?_
  refine c_rseq (n := 83) ⟨rfl, rfl⟩ ?_
  refine s_val (r_makeFunc en (ec rfl en)) ?_
  refine s_val (r_assign rfl) ?_
  refine c_nil (l' := [_,_,_,_,_,_,_,_,_,_,_,_,_,_,_,_,_,_,_,_,_,_,_,_,_,_,_,_,_,_,_,_,_,_,_,_,_,_,_,_,_,_,_,_,_,_,_,_,_,_,_,_,_,_,_,_,_,_,_,_,_,_,_,_,_,_,_,_,_,_,_,_,_,_,_,_,_,_,_,_,_,_,_]) rfl ?_
  refine c_rseq (n := 83) ⟨rfl, rfl⟩ ?_
  refine s_val (r_fieldAddr (k := 0) Try.runUnderlying40 rfl Try.sizeOf3 (by decide) rfl rfl) ?_
  refine s_val (r_load1 Try.isAgg3 rfl (H.at 0 rfl) rfl) ?_
  refine s_call (r_call Try.call27 (ec rfl en)) (has_k y.kind _) ?_
  rintro v w ⟨rfl, HC⟩
  replace H := H.quiet HC
  refine s_val (r_move rfl) ?_
  refine s_val (r_extract rfl rfl) ?_
  refine s_val (r_extract rfl rfl) ?_
  refine s_new (m_alloc (cs := (ptC false false false false)) H Try.zeroValue75 rfl) ?_
  intro w b6 H
  refine s_st (m_storen H 0 4 Try.sizeOf75 rfl rfl (by first | exact (kC_length _) | exact (hC_length _) | exact (ceC_length _) | exact (ptC_length _ _ _ _) | exact (plV_length _ _ _) | exact (elFr.len _) | exact (frC_length _) | exact (fdV_length _ _ _)) (by first | exact (kC_one _) | exact (hC_one _) | exact (ceC_one _) | exact (ptC_one _ _ _ _) | exact (plV_one _ _ _) | exact (elFr.one _) | exact (frC_one _) | exact (fdV_one _ _ _)) rfl (by show 0 + 4 ≤ 4; omega) (rfl : _ = ptC (kPl y.kind) (kRf y.kind) (kMi y.kind) (kBo y.kind))) (L' := (_ :: _ :: _ :: _)) rfl ?_
  intro w H
  refine s_val (r_assign rfl) ?_
  refine c_nil (l' := [_,_,_,_,_,_,_,_,_,_,_,_,_,_,_,_,_,_,_,_,_,_,_,_,_,_,_,_,_,_,_,_,_,_,_,_,_,_,_,_,_,_,_,_,_,_,_,_,_,_,_,_,_,_,_,_,_,_,_,_,_,_,_,_,_,_,_,_,_,_,_,_,_,_,_,_,_,_,_,_,_,_,_]) rfl ?_
  refine c_rseq (n := 83) ⟨rfl, rfl⟩ ?_
  refine s_val (r_move rfl) ?_
  refine s_val (r_fieldAddr (k := 0) Try.runUnderlying40 rfl Try.sizeOf3 (by decide) rfl rfl) ?_
  refine s_val (r_load1 Try.isAgg3 rfl (H.at 1 rfl) rfl) ?_
  have hl0 : bdZ.b.length = 0 := rfl
  refine s_new (m_bsliceF (m := 1) (pl := [(0, 1)]) (out := [.int .i64 y.kind]) H Try.runUnderlying48 Try.sizeOf3 Try.zeroValue3 rfl (by omega) (by omega) (pc rfl pn) (by intro p hp; simp at hp; rcases hp with rfl <;> rfl) rfl) ?_
  intro w b21 H
  refine s_call (r_callv Try.call25 rfl (ec rfl (ec rfl en)) rfl) (encn_l b4 bdZ [] 1 1 rfl (some ⟨b21, 0, none⟩) 1 [y.kind] (by omega) (by omega) (by intro n hn; simp only [List.mem_cons, List.not_mem_nil, or_false] at hn; omega) (by show 1 ≤ 100; omega) (by omega) RowN.nil _ (fun w2 L2 h2 _ => ⟨b21, 0, [], [], _,_, rfl, (St.callr (L := [_,_,_]) H h2).at 0 rfl, rfl⟩) (H.ownsM (.cons _ (.cons _ (.cons _ (List.Sublist.refl _)))))) ?_
  rintro v w ⟨rfl, u1, N1, hu1, hR1, HC⟩
  replace H : St w0 [] w (_ :: _ :: _ :: N1) := (St.callr (L := [_,_,_]) H HC).sub (.cons _ (List.Sublist.refl _))
  have hl1 : u1.b.length = bdZ.b.length + 1 := by rw [hu1, List.length_append, numsB_length]; rfl
  refine c_nil (l' := [_,_,_,_,_,_,_,_,_,_,_,_,_,_,_,_,_,_,_,_,_,_,_,_,_,_,_,_,_,_,_,_,_,_,_,_,_,_,_,_,_,_,_,_,_,_,_,_,_,_,_,_,_,_,_,_,_,_,_,_,_,_,_,_,_,_,_,_,_,_,_,_,_,_,_,_,_,_,_,_,_,_,_]) rfl ?_
  refine c_rseq (n := 83) ⟨rfl, rfl⟩ ?_
  refine s_val (r_move rfl) ?_
  refine s_val (r_fieldAddr (k := 1) Try.runUnderlying40 rfl Try.sizeOf24 (by decide) rfl rfl) ?_
  refine s_val (r_load1 Try.isAgg24 rfl (H.at 1 rfl) rfl) ?_
  refine s_val (r_conv Try.runUnderlying24 Try.runUnderlying3 rfl (w_i64 (by omega) (by omega))) ?_
  refine s_new (m_bsliceF (m := 1) (pl := [(0, 1)]) (out := [.int .i64 y.num]) H Try.runUnderlying48 Try.sizeOf3 Try.zeroValue3 rfl (by omega) (by omega) (pc rfl pn) (by intro p hp; simp at hp; rcases hp with rfl <;> rfl) rfl) ?_
  intro w b27 H
  refine s_call (r_callv Try.call25 rfl (ec rfl (ec rfl en)) rfl) (encn_l b4 u1 N1 2 2 rfl (some ⟨b27, 0, none⟩) 1 [y.num] (by omega) (by omega) (by intro n hn; simp only [List.mem_cons, List.not_mem_nil, or_false] at hn; omega) (by show 1 ≤ 100; omega) (by omega) hR1 _ (fun w2 L2 h2 _ => ⟨b27, 0, [], [], _,_, rfl, (St.callr (L := [_,_,_]) H h2).at 0 rfl, rfl⟩) (H.ownsM (.cons _ (.cons _ (.cons _ (List.Sublist.refl _)))))) ?_
  rintro v w ⟨rfl, u2, N2, hu2, hR2, HC⟩
  replace H : St w0 [] w (_ :: _ :: _ :: N2) := (St.callr (L := [_,_,_]) H HC).sub (.cons _ (List.Sublist.refl _))
  have hl2 : u2.b.length = u1.b.length + 2 := by rw [hu2, List.length_append, numsB_length]; rfl
  refine c_nil (l' := [_,_,_,_,_,_,_,_,_,_,_,_,_,_,_,_,_,_,_,_,_,_,_,_,_,_,_,_,_,_,_,_,_,_,_,_,_,_,_,_,_,_,_,_,_,_,_,_,_,_,_,_,_,_,_,_,_,_,_,_,_,_,_,_,_,_,_,_,_,_,_,_,_,_,_,_,_,_,_,_,_,_,_]) rfl ?_
  refine c_rseq (n := 83) ⟨rfl, rfl⟩ ?_
  refine s_val (r_move rfl) ?_
  refine s_val (r_fieldAddr (k := 2) Try.runUnderlying40 rfl Try.sizeOf3 (by decide) rfl rfl) ?_
  refine s_val (r_load1 Try.isAgg3 rfl (H.at 1 rfl) rfl) ?_
  refine s_new (m_bsliceF (m := 1) (pl := [(0, 1)]) (out := [.int .i64 y.min]) H Try.runUnderlying48 Try.sizeOf3 Try.zeroValue3 rfl (by omega) (by omega) (pc rfl pn) (by intro p hp; simp at hp; rcases hp with rfl <;> rfl) rfl) ?_
  intro w b32 H
  refine s_call (r_callv Try.call25 rfl (ec rfl (ec rfl en)) rfl) (encn_l b4 u2 N2 4 4 rfl (some ⟨b32, 0, none⟩) 1 [y.min] (by omega) (by omega) (by intro n hn; simp only [List.mem_cons, List.not_mem_nil, or_false] at hn; omega) (by show 1 ≤ 100; omega) (by omega) hR2 _ (fun w2 L2 h2 _ => ⟨b32, 0, [], [], _,_, rfl, (St.callr (L := [_,_,_]) H h2).at 0 rfl, rfl⟩) (H.ownsM (.cons _ (.cons _ (.cons _ (List.Sublist.refl _)))))) ?_
  rintro v w ⟨rfl, u3, N3, hu3, hR3, HC⟩
  replace H : St w0 [] w (_ :: _ :: _ :: N3) := (St.callr (L := [_,_,_]) H HC).sub (.cons _ (List.Sublist.refl _))
  have hl3 : u3.b.length = u2.b.length + 4 := by rw [hu3, List.length_append, numsB_length]; rfl
  refine c_nil (l' := [_,_,_,_,_,_,_,_,_,_,_,_,_,_,_,_,_,_,_,_,_,_,_,_,_,_,_,_,_,_,_,_,_,_,_,_,_,_,_,_,_,_,_,_,_,_,_,_,_,_,_,_,_,_,_,_,_,_,_,_,_,_,_,_,_,_,_,_,_,_,_,_,_,_,_,_,_,_,_,_,_,_,_]) rfl ?_
  have hH : u3.b = encH (ceP y) := by rw [hu3, hu2, hu1]; rfl
  refine c_cut (fun (l0 : List Value) (l : List Value) (w : World) => ∃ (u34 u35 u36 u37 u38 u39 u40 u41 u42 u43 u44 u45 u46 u47 u48 u49 u50 : Value) (u : Bd) (Nu : List (Nat × Obj)), l = ovr l0 [N_, N_, N_, N_, N_, N_, N_, N_, N_, N_, N_, N_, N_, N_, N_, N_, N_, N_, N_, N_, N_, N_, N_, N_, N_, N_, N_, N_, N_, N_, N_, N_, N_, N_, Y_ u34, Y_ u35, Y_ u36, Y_ u37, Y_ u38, Y_ u39, Y_ u40, Y_ u41, Y_ u42, Y_ u43, Y_ u44, Y_ u45, Y_ u46, Y_ u47, Y_ u48, Y_ u49, Y_ u50] ∧ u.b = encP1 (ceP y) ∧ RowN 1 5 (bC u.b) u.b.length u.a u.c Nu ∧ u.b.length ≤ 11 ∧ St w0 [] w ((b6, .cells (ptC (kPl y.kind) (kRf y.kind) (kMi y.kind) (kBo y.kind)).toArray 75 (0, 0)) :: (b1, .cells (ceC y).toArray 40 (0, 0)) :: (b4, .cells (bd1 u).toArray 25 (0, 0)) :: Nu)) ?_ ?_
  ·skip
   refine c_rseq (n := 83) ⟨rfl, rfl⟩ ?_
   refine s_val (r_fieldAddr (k := 0) Try.runUnderlying75 rfl Try.sizeOf4 (by decide) rfl rfl) ?_
   refine s_val (r_load1 Try.isAgg4 rfl (H.at 0 rfl) rfl) ?_
   refine c_nil (l' := [_,_,_,_,_,_,_,_,_,_,_,_,_,_,_,_,_,_,_,_,_,_,_,_,_,_,_,_,_,_,_,_,_,_,_,_,_,_,_,_,_,_,_,_,_,_,_,_,_,_,_,_,_,_,_,_,_,_,_,_,_,_,_,_,_,_,_,_,_,_,_,_,_,_,_,_,_,_,_,_,_,_,_]) rfl ?_
   refine c_ifb rfl (fun h35 => ?_) (fun h35 => ?_)
   ·skip
    obtain ⟨⟨p1, p2⟩, ⟨p3, p4⟩, p5, p6⟩ := qp h35
    refine c_rseq (n := 83) ⟨rfl, rfl⟩ ?_
    refine s_val (r_move rfl) ?_
    refine s_val (r_fieldAddr (k := 3) Try.runUnderlying40 rfl Try.sizeOf38 (by decide) rfl rfl) ?_
    refine s_val (r_fieldAddr (k := 0) Try.runUnderlying38 rfl Try.sizeOf3 (by decide) rfl rfl) ?_
    refine s_val (r_load1 Try.isAgg3 rfl (H.at 1 rfl) rfl) ?_
    refine s_val (r_fieldAddr (k := 3) Try.runUnderlying40 rfl Try.sizeOf38 (by decide) rfl rfl) ?_
    refine s_val (r_fieldAddr (k := 1) Try.runUnderlying38 rfl Try.sizeOf3 (by decide) rfl rfl) ?_
    refine s_val (r_load1 Try.isAgg3 rfl (H.at 1 rfl) rfl) ?_
    refine s_new (m_bsliceF (m := 2) (pl := [(0, 1), (1, 1)]) (out := [.int .i64 y.br, .int .i64 y.vol]) H Try.runUnderlying48 Try.sizeOf3 Try.zeroValue3 rfl (by omega) (by omega) (pc rfl (pc rfl pn)) (by intro p hp; simp at hp; rcases hp with rfl | rfl <;> rfl) rfl) ?_
    intro w b43 H
    refine s_call (r_callv Try.call25 rfl (ec rfl (ec rfl en)) rfl) (encn_l b4 u3 N3 1 1 rfl (some ⟨b43, 0, none⟩) 2 [y.br, y.vol] (by omega) (by omega) (by intro n hn; simp only [List.mem_cons, List.not_mem_nil, or_false] at hn; omega) (by show 2 ≤ 100; omega) (by omega) hR3 _ (fun w2 L2 h2 _ => ⟨b43, 0, [], [], _,_, rfl, (St.callr (L := [_,_,_]) H h2).at 0 rfl, rfl⟩) (H.ownsM (.cons _ (.cons _ (.cons _ (List.Sublist.refl _)))))) ?_
    rintro v w ⟨rfl, u4, N4, hu4, hR4, HC⟩
    replace H : St w0 [] w (_ :: _ :: _ :: N4) := (St.callr (L := [_,_,_]) H HC).sub (.cons _ (List.Sublist.refl _))
    have hl4 : u4.b.length = u3.b.length + 2 := by rw [hu4, List.length_append, numsB_length]; rfl
    refine c_nil (l' := [_,_,_,_,_,_,_,_,_,_,_,_,_,_,_,_,_,_,_,_,_,_,_,_,_,_,_,_,_,_,_,_,_,_,_,_,_,_,_,_,_,_,_,_,_,_,_,_,_,_,_,_,_,_,_,_,_,_,_,_,_,_,_,_,_,_,_,_,_,_,_,_,_,_,_,_,_,_,_,_,_,_,_]) rfl ?_
    refine c_region (n := 83) ⟨rfl, rfl⟩ ?_
    refine s_val (r_move rfl) ?_
    refine s_val (r_fieldAddr (k := 3) Try.runUnderlying40 rfl Try.sizeOf38 (by decide) rfl rfl) ?_
    refine s_val (r_fieldAddr (k := 2) Try.runUnderlying38 rfl Try.sizeOf3 (by decide) rfl rfl) ?_
    refine s_val (r_load1 Try.isAgg3 rfl (H.at 1 rfl) rfl) ?_
    refine s_new (m_bsliceF (m := 1) (pl := [(0, 1)]) (out := [.int .i64 y.blk]) H Try.runUnderlying48 Try.sizeOf3 Try.zeroValue3 rfl (by omega) (by omega) (pc rfl pn) (by intro p hp; simp at hp; rcases hp with rfl <;> rfl) rfl) ?_
    intro w b49 H
    refine s_call (r_callv Try.call25 rfl (ec rfl (ec rfl en)) rfl) (encn_l b4 u4 N4 2 2 rfl (some ⟨b49, 0, none⟩) 1 [y.blk] (by omega) (by omega) (by intro n hn; simp only [List.mem_cons, List.not_mem_nil, or_false] at hn; omega) (by show 1 ≤ 100; omega) (by omega) hR4 _ (fun w2 L2 h2 _ => ⟨b49, 0, [], [], _,_, rfl, (St.callr (L := [_,_,_]) H h2).at 0 rfl, rfl⟩) (H.ownsM (.cons _ (.cons _ (.cons _ (List.Sublist.refl _)))))) ?_
    rintro v w ⟨rfl, u5, N5, hu5, hR5, HC⟩
    replace H : St w0 [] w (_ :: _ :: _ :: N5) := (St.callr (L := [_,_,_]) H HC).sub (.cons _ (List.Sublist.refl _))
    have hl5 : u5.b.length = u4.b.length + 2 := by rw [hu5, List.length_append, numsB_length]; rfl
    refine c_nil0 (l' := [_,_,_,_,_,_,_,_,_,_,_,_,_,_,_,_,_,_,_,_,_,_,_,_,_,_,_,_,_,_,_,_,_,_,_,_,_,_,_,_,_,_,_,_,_,_,_,_,_,_,_,_,_,_,_,_,_,_,_,_,_,_,_,_,_,_,_,_,_,_,_,_,_,_,_,_,_,_,_,_,_,_,_]) rfl ?_
    exact ⟨_, rfl, ⟨_,_,_,_,_,_,_,_,_,_,_,_,_,_,_,_,_,_,_, rfl, (by rw [encP1_yes (c := ceP y) h35, hu5, hu4, hH]; rfl), hR5, by omega, H⟩⟩
   ·skip
    refine wp_skip ?_
    exact ⟨_, rfl, ⟨_,_,_,_,_,_,_,_,_,_,_,_,_,_,_,_,_,_,_, rfl, (hH.trans (encP1_no (c := ceP y) h35).symm), hR3, by omega, H⟩⟩
  ·skip
   rintro l w ⟨u34, u35, u36, u37, u38, u39, u40, u41, u42, u43, u44, u45, u46, u47, u48, u49, u50, u, Nu, hl, hu, hRu, hlu, H⟩
   obtain rfl := hl.trans (rfl : _ = [_,_,_,_,_,_,_,_,_,_,_,_,_,_,_,_,_,_,_,_,_,_,_,_,_,_,_,_,_,_,_,_,_,_,_,_,_,_,_,_,_,_,_,_,_,_,_,_,_,_,_,_,_,_,_,_,_,_,_,_,_,_,_,_,_,_,_,_,_,_,_,_,_,_,_,_,_,_,_,_,_,_,_])
   clear hl
   refine c_cut (fun (l0 : List Value) (l : List Value) (w : World) => ∃ (u51 u52 u53 u54 u55 u56 u57 u58 : Value) (u : Bd) (Nu : List (Nat × Obj)), l = ovr l0 [N_, N_, N_, N_, N_, N_, N_, N_, N_, N_, N_, N_, N_, N_, N_, N_, N_, N_, N_, N_, N_, N_, N_, N_, N_, N_, N_, N_, N_, N_, N_, N_, N_, N_, N_, N_, N_, N_, N_, N_, N_, N_, N_, N_, N_, N_, N_, N_, N_, N_, N_, Y_ u51, Y_ u52, Y_ u53, Y_ u54, Y_ u55, Y_ u56, Y_ u57, Y_ u58] ∧ u.b = encP2 (ceP y) ∧ RowN 1 5 (bC u.b) u.b.length u.a u.c Nu ∧ u.b.length ≤ 20 ∧ St w0 [] w ((b6, .cells (ptC (kPl y.kind) (kRf y.kind) (kMi y.kind) (kBo y.kind)).toArray 75 (0, 0)) :: (b1, .cells (ceC y).toArray 40 (0, 0)) :: (b4, .cells (bd1 u).toArray 25 (0, 0)) :: Nu)) ?_ ?_
   ·skip
    refine c_rseq (n := 83) ⟨rfl, rfl⟩ ?_
    refine s_val (r_fieldAddr (k := 1) Try.runUnderlying75 rfl Try.sizeOf4 (by decide) rfl rfl) ?_
    refine s_val (r_load1 Try.isAgg4 rfl (H.at 0 rfl) rfl) ?_
    refine c_nil (l' := [_,_,_,_,_,_,_,_,_,_,_,_,_,_,_,_,_,_,_,_,_,_,_,_,_,_,_,_,_,_,_,_,_,_,_,_,_,_,_,_,_,_,_,_,_,_,_,_,_,_,_,_,_,_,_,_,_,_,_,_,_,_,_,_,_,_,_,_,_,_,_,_,_,_,_,_,_,_,_,_,_,_,_]) rfl ?_
    refine c_ifb rfl (fun h52 => ?_) (fun h52 => ?_)
    ·skip
     obtain ⟨p1, p2⟩ := qr h52
     refine c_region (n := 83) ⟨rfl, rfl⟩ ?_
     refine s_val (r_move rfl) ?_
     refine s_val (r_fieldAddr (k := 6) Try.runUnderlying40 rfl Try.sizeOf24 (by decide) rfl rfl) ?_
     refine s_val (r_load1 Try.isAgg24 rfl (H.at 1 rfl) rfl) ?_
     refine s_val (r_conv Try.runUnderlying24 Try.runUnderlying3 rfl (w_i64 (by omega) (by omega))) ?_
     refine s_new (m_bsliceF (m := 1) (pl := [(0, 1)]) (out := [.int .i64 y.ref]) H Try.runUnderlying48 Try.sizeOf3 Try.zeroValue3 rfl (by omega) (by omega) (pc rfl pn) (by intro p hp; simp at hp; rcases hp with rfl <;> rfl) rfl) ?_
     intro w b57 H
     refine s_call (r_callv Try.call25 rfl (ec rfl (ec rfl en)) rfl) (encn_l b4 u Nu 2 2 rfl (some ⟨b57, 0, none⟩) 1 [y.ref] (by omega) (by omega) (by intro n hn; simp only [List.mem_cons, List.not_mem_nil, or_false] at hn; omega) (by show 1 ≤ 100; omega) (by omega) hRu _ (fun w2 L2 h2 _ => ⟨b57, 0, [], [], _,_, rfl, (St.callr (L := [_,_,_]) H h2).at 0 rfl, rfl⟩) (H.ownsM (.cons _ (.cons _ (.cons _ (List.Sublist.refl _)))))) ?_
     rintro v w ⟨rfl, u6, N6, hu6, hR6, HC⟩
     replace H : St w0 [] w (_ :: _ :: _ :: N6) := (St.callr (L := [_,_,_]) H HC).sub (.cons _ (List.Sublist.refl _))
     have hl6 : u6.b.length = u.b.length + 2 := by rw [hu6, List.length_append, numsB_length]; rfl
     refine c_nil0 (l' := [_,_,_,_,_,_,_,_,_,_,_,_,_,_,_,_,_,_,_,_,_,_,_,_,_,_,_,_,_,_,_,_,_,_,_,_,_,_,_,_,_,_,_,_,_,_,_,_,_,_,_,_,_,_,_,_,_,_,_,_,_,_,_,_,_,_,_,_,_,_,_,_,_,_,_,_,_,_,_,_,_,_,_]) rfl ?_
     exact ⟨_, rfl, ⟨_,_,_,_,_,_,_,_,_,_, rfl, (by rw [encP2_yes (c := ceP y) h52, hu6, hu]; rfl), hR6, by omega, H⟩⟩
    ·skip
     refine wp_skip ?_
     exact ⟨_, rfl, ⟨_,_,_,_,_,_,_,_,_,_, rfl, (hu.trans (encP2_no (c := ceP y) h52).symm), hRu, by omega, H⟩⟩
   ·skip
    rintro l w ⟨u51, u52, u53, u54, u55, u56, u57, u58, u, Nu, hl, hu, hRu, hlu, H⟩
    obtain rfl := hl.trans (rfl : _ = [_,_,_,_,_,_,_,_,_,_,_,_,_,_,_,_,_,_,_,_,_,_,_,_,_,_,_,_,_,_,_,_,_,_,_,_,_,_,_,_,_,_,_,_,_,_,_,_,_,_,_,_,_,_,_,_,_,_,_,_,_,_,_,_,_,_,_,_,_,_,_,_,_,_,_,_,_,_,_,_,_,_,_])
    clear hl
    refine c_cut (fun (l0 : List Value) (l : List Value) (w : World) => ∃ (u59 u60 u61 u62 u63 u64 u65 u66 u67 u68 u69 : Value) (u : Bd) (Nu : List (Nat × Obj)), l = ovr l0 [N_, N_, N_, N_, N_, N_, N_, N_, N_, N_, N_, N_, N_, N_, N_, N_, N_, N_, N_, N_, N_, N_, N_, N_, N_, N_, N_, N_, N_, N_, N_, N_, N_, N_, N_, N_, N_, N_, N_, N_, N_, N_, N_, N_, N_, N_, N_, N_, N_, N_, N_, N_, N_, N_, N_, N_, N_, N_, N_, Y_ u59, Y_ u60, Y_ u61, Y_ u62, Y_ u63, Y_ u64, Y_ u65, Y_ u66, Y_ u67, Y_ u68, Y_ u69] ∧ u.b = encP3 (ceP y) ∧ RowN 1 5 (bC u.b) u.b.length u.a u.c Nu ∧ u.b.length ≤ 40 ∧ St w0 [] w ((b6, .cells (ptC (kPl y.kind) (kRf y.kind) (kMi y.kind) (kBo y.kind)).toArray 75 (0, 0)) :: (b1, .cells (ceC y).toArray 40 (0, 0)) :: (b4, .cells (bd1 u).toArray 25 (0, 0)) :: Nu)) ?_ ?_
    ·skip
     refine c_rseq (n := 83) ⟨rfl, rfl⟩ ?_
     refine s_val (r_fieldAddr (k := 2) Try.runUnderlying75 rfl Try.sizeOf4 (by decide) rfl rfl) ?_
     refine s_val (r_load1 Try.isAgg4 rfl (H.at 0 rfl) rfl) ?_
     refine c_nil (l' := [_,_,_,_,_,_,_,_,_,_,_,_,_,_,_,_,_,_,_,_,_,_,_,_,_,_,_,_,_,_,_,_,_,_,_,_,_,_,_,_,_,_,_,_,_,_,_,_,_,_,_,_,_,_,_,_,_,_,_,_,_,_,_,_,_,_,_,_,_,_,_,_,_,_,_,_,_,_,_,_,_,_,_]) rfl ?_
     refine c_ifb rfl (fun h60 => ?_) (fun h60 => ?_)
     ·skip
      obtain ⟨⟨p1, p2⟩, ⟨p3, p4⟩, p5, p6⟩ := qm h60
      refine c_region (n := 83) ⟨rfl, rfl⟩ ?_
      refine s_val (r_move rfl) ?_
      refine s_val (r_fieldAddr (k := 7) Try.runUnderlying40 rfl Try.sizeOf3 (by decide) rfl rfl) ?_
      refine s_val (r_load1 Try.isAgg3 rfl (H.at 1 rfl) rfl) ?_
      refine s_val (r_fieldAddr (k := 8) Try.runUnderlying40 rfl Try.sizeOf3 (by decide) rfl rfl) ?_
      refine s_val (r_load1 Try.isAgg3 rfl (H.at 1 rfl) rfl) ?_
      refine s_val (r_fieldAddr (k := 9) Try.runUnderlying40 rfl Try.sizeOf3 (by decide) rfl rfl) ?_
      refine s_val (r_load1 Try.isAgg3 rfl (H.at 1 rfl) rfl) ?_
      refine s_new (m_bsliceF (m := 3) (pl := [(0, 1), (1, 1), (2, 1)]) (out := [.int .i64 y.fr, .int .i64 y.to, .int .i64 y.un]) H Try.runUnderlying48 Try.sizeOf3 Try.zeroValue3 rfl (by omega) (by omega) (pc rfl (pc rfl (pc rfl pn))) (by intro p hp; simp at hp; rcases hp with rfl | rfl | rfl <;> rfl) rfl) ?_
      intro w b68 H
      refine s_call (r_callv Try.call25 rfl (ec rfl (ec rfl en)) rfl) (encn_l b4 u Nu 4 4 rfl (some ⟨b68, 0, none⟩) 3 [y.fr, y.to, y.un] (by omega) (by omega) (by intro n hn; simp only [List.mem_cons, List.not_mem_nil, or_false] at hn; omega) (by show 3 ≤ 100; omega) (by omega) hRu _ (fun w2 L2 h2 _ => ⟨b68, 0, [], [], _,_, rfl, (St.callr (L := [_,_,_]) H h2).at 0 rfl, rfl⟩) (H.ownsM (.cons _ (.cons _ (.cons _ (List.Sublist.refl _)))))) ?_
      rintro v w ⟨rfl, u7, N7, hu7, hR7, HC⟩
      replace H : St w0 [] w (_ :: _ :: _ :: N7) := (St.callr (L := [_,_,_]) H HC).sub (.cons _ (List.Sublist.refl _))
      have hl7 : u7.b.length = u.b.length + 12 := by rw [hu7, List.length_append, numsB_length]; rfl
      refine c_nil0 (l' := [_,_,_,_,_,_,_,_,_,_,_,_,_,_,_,_,_,_,_,_,_,_,_,_,_,_,_,_,_,_,_,_,_,_,_,_,_,_,_,_,_,_,_,_,_,_,_,_,_,_,_,_,_,_,_,_,_,_,_,_,_,_,_,_,_,_,_,_,_,_,_,_,_,_,_,_,_,_,_,_,_,_,_]) rfl ?_
      exact ⟨_, rfl, ⟨_,_,_,_,_,_,_,_,_,_,_,_,_, rfl, (by rw [encP3_yes (c := ceP y) h60, hu7, hu]; rfl), hR7, by omega, H⟩⟩
     ·skip
      refine wp_skip ?_
      exact ⟨_, rfl, ⟨_,_,_,_,_,_,_,_,_,_,_,_,_, rfl, (hu.trans (encP3_no (c := ceP y) h60).symm), hRu, by omega, H⟩⟩
    ·skip
     rintro l w ⟨u59, u60, u61, u62, u63, u64, u65, u66, u67, u68, u69, u, Nu, hl, hu, hRu, hlu, H⟩
     obtain rfl := hl.trans (rfl : _ = [_,_,_,_,_,_,_,_,_,_,_,_,_,_,_,_,_,_,_,_,_,_,_,_,_,_,_,_,_,_,_,_,_,_,_,_,_,_,_,_,_,_,_,_,_,_,_,_,_,_,_,_,_,_,_,_,_,_,_,_,_,_,_,_,_,_,_,_,_,_,_,_,_,_,_,_,_,_,_,_,_,_,_])
     clear hl
     refine c_cut (fun (l0 : List Value) (l : List Value) (w : World) => ∃ (u70 u71 u72 u73 u74 u75 u76 u77 u78 u79 u80 u81 : Value) (u : Bd) (Nu : List (Nat × Obj)), l = ovr l0 [N_, N_, N_, N_, N_, N_, N_, N_, N_, N_, N_, N_, N_, N_, N_, N_, N_, N_, N_, N_, N_, N_, N_, N_, N_, N_, N_, N_, N_, N_, N_, N_, N_, N_, N_, N_, N_, N_, N_, N_, N_, N_, N_, N_, N_, N_, N_, N_, N_, N_, N_, N_, N_, N_, N_, N_, N_, N_, N_, N_, N_, N_, N_, N_, N_, N_, N_, N_, N_, N_, Y_ u70, Y_ u71, Y_ u72, Y_ u73, Y_ u74, Y_ u75, Y_ u76, Y_ u77, Y_ u78, Y_ u79, Y_ u80, Y_ u81] ∧ u.b = encP (ceP y) ∧ RowN 1 5 (bC u.b) u.b.length u.a u.c Nu ∧ u.b.length ≤ 90 ∧ St w0 [] w ((b6, .cells (ptC (kPl y.kind) (kRf y.kind) (kMi y.kind) (kBo y.kind)).toArray 75 (0, 0)) :: (b1, .cells (ceC y).toArray 40 (0, 0)) :: (b4, .cells (bd1 u).toArray 25 (0, 0)) :: Nu)) ?_ ?_
     ·skip
      refine c_rseq (n := 83) ⟨rfl, rfl⟩ ?_
      refine s_val (r_fieldAddr (k := 3) Try.runUnderlying75 rfl Try.sizeOf4 (by decide) rfl rfl) ?_
      refine s_val (r_load1 Try.isAgg4 rfl (H.at 0 rfl) rfl) ?_
      refine c_nil (l' := [_,_,_,_,_,_,_,_,_,_,_,_,_,_,_,_,_,_,_,_,_,_,_,_,_,_,_,_,_,_,_,_,_,_,_,_,_,_,_,_,_,_,_,_,_,_,_,_,_,_,_,_,_,_,_,_,_,_,_,_,_,_,_,_,_,_,_,_,_,_,_,_,_,_,_,_,_,_,_,_,_,_,_]) rfl ?_
      refine c_ifb rfl (fun h71 => ?_) (fun h71 => ?_)
      ·skip
       refine c_rseq (n := 83) ⟨rfl, rfl⟩ ?_
       refine s_val (r_move rfl) ?_
       refine s_val (r_fieldAddr (k := 10) Try.runUnderlying40 rfl Try.sizeOf25 (by decide) rfl rfl) ?_
       refine s_val (r_load1 Try.isAgg25 rfl (H.at 1 rfl) rfl) ?_
       refine s_val (r_lens Try.runUnderlying25 (ec rfl en)) ?_
       refine s_new (m_bsliceF (m := 1) (pl := [(0, 1)]) (out := [.int .i64 (y.body.b.length : Int)]) H Try.runUnderlying48 Try.sizeOf3 Try.zeroValue3 rfl (by omega) (by omega) (pc rfl pn) (by intro p hp; simp at hp; rcases hp with rfl <;> rfl) rfl) ?_
       intro w b76 H
       refine s_call (r_callv Try.call25 rfl (ec rfl (ec rfl en)) rfl) (encn_l b4 u Nu 1 1 rfl (some ⟨b76, 0, none⟩) 1 [(y.body.b.length : Int)] (by omega) (by omega) (by intro n hn; simp only [List.mem_cons, List.not_mem_nil, or_false] at hn; omega) (by show 1 ≤ 100; omega) (by omega) hRu _ (fun w2 L2 h2 _ => ⟨b76, 0, [], [], _,_, rfl, (St.callr (L := [_,_,_]) H h2).at 0 rfl, rfl⟩) (H.ownsM (.cons _ (.cons _ (.cons _ (List.Sublist.refl _)))))) ?_
       rintro v w ⟨rfl, u9, N9, hu9, hR9, HC⟩
       replace H : St w0 [] w (_ :: _ :: _ :: N9) := (St.callr (L := [_,_,_]) H HC).sub (.cons _ (List.Sublist.refl _))
       have hl9 : u9.b.length = u.b.length + 1 := by rw [hu9, List.length_append, numsB_length]; rfl
       refine c_nil (l' := [_,_,_,_,_,_,_,_,_,_,_,_,_,_,_,_,_,_,_,_,_,_,_,_,_,_,_,_,_,_,_,_,_,_,_,_,_,_,_,_,_,_,_,_,_,_,_,_,_,_,_,_,_,_,_,_,_,_,_,_,_,_,_,_,_,_,_,_,_,_,_,_,_,_,_,_,_,_,_,_,_,_,_]) rfl ?_
       refine c_region (n := 83) ⟨rfl, rfl⟩ ?_
       refine s_val (r_load1 Try.isAgg25 rfl (H.at 2 rfl) rfl) ?_
       refine s_val (r_fieldAddr (k := 10) Try.runUnderlying40 rfl Try.sizeOf25 (by decide) rfl rfl) ?_
       refine s_val (r_load1 Try.isAgg25 rfl (H.at 1 rfl) rfl) ?_
       refine s_any (m_append_row0 (L1 := [_,_,_]) (N := N9) H hR9 Try.runUnderlying25 Try.runUnderlying25 (fun _ h => nomatch h) Try.sizeOf5 Try.zeroValue5 rfl Try.typeInfo5 (by rw [bytes5]; omega) (by rw [bytes5]; omega) (ec rfl (ec rfl en)) ((hy.st (H.sub (List.nil_sublist _))).src _)) ?_
       rintro v w ⟨a5, c5, N5, rfl, hN5, H⟩
       skip
       refine s_st (m_store1 H 2 Try.sizeOf25 rfl rfl rfl rfl (by show 0 < 1; omega) (bd1_set (b := u9.b ++ y.body.b) (by rw [List.length_append]))) (L' := (_ :: _ :: _ :: _)) rfl ?_
       intro w H
       refine c_nil0 (l' := [_,_,_,_,_,_,_,_,_,_,_,_,_,_,_,_,_,_,_,_,_,_,_,_,_,_,_,_,_,_,_,_,_,_,_,_,_,_,_,_,_,_,_,_,_,_,_,_,_,_,_,_,_,_,_,_,_,_,_,_,_,_,_,_,_,_,_,_,_,_,_,_,_,_,_,_,_,_,_,_,_,_,_]) rfl ?_
       exact ⟨_, rfl, ⟨_,_,_,_,_,_,_,_,_,_,_,_,_,_, rfl, (by show u9.b ++ y.body.b = _; rw [encP_yes (c := ceP y) h71, hu9, hu]; rfl), (by rw [bC_append, List.length_append]; exact hN5), (by rw [List.length_append]; omega), H⟩⟩
      ·skip
       refine wp_skip ?_
       exact ⟨_, rfl, ⟨_,_,_,_,_,_,_,_,_,_,_,_,_,_, rfl, (hu.trans (encP_no (c := ceP y) h71).symm), hRu, by omega, H⟩⟩
     ·skip
      rintro l w ⟨u70, u71, u72, u73, u74, u75, u76, u77, u78, u79, u80, u81, u, Nu, hl, hu, hRu, hlu, H⟩
      obtain rfl := hl.trans (rfl : _ = [_,_,_,_,_,_,_,_,_,_,_,_,_,_,_,_,_,_,_,_,_,_,_,_,_,_,_,_,_,_,_,_,_,_,_,_,_,_,_,_,_,_,_,_,_,_,_,_,_,_,_,_,_,_,_,_,_,_,_,_,_,_,_,_,_,_,_,_,_,_,_,_,_,_,_,_,_,_,_,_,_,_,_])
      clear hl
      refine c_rseq (n := 83) ⟨rfl, rfl⟩ ?_
      refine s_val (r_load1 Try.isAgg25 rfl (H.at 2 rfl) rfl) ?_
      refine s_val (r_assign rfl) ?_
      refine s_val (r_assign rfl) ?_
      refine c_nil (l' := [_,_,_,_,_,_,_,_,_,_,_,_,_,_,_,_,_,_,_,_,_,_,_,_,_,_,_,_,_,_,_,_,_,_,_,_,_,_,_,_,_,_,_,_,_,_,_,_,_,_,_,_,_,_,_,_,_,_,_,_,_,_,_,_,_,_,_,_,_,_,_,_,_,_,_,_,_,_,_,_,_,_,_]) rfl ?_
      refine wp_ret ?_
      refine e_ret (res2 rfl rfl rfl) ⟨_, rfl, ?_⟩
      exact .inl ⟨hrt, u, Nu, rfl, hu, hRu, H.sub (.cons _ (.cons _ (.cons _ (List.Sublist.refl _))))⟩
 ·skip
  replace H := H.quiet HC
  refine s_val (r_not rfl) ?_
  refine c_nil (l' := [_,_,_,_,_,_,_,_,_,_,_,_,_,_,_,_,_,_,_,_,_,_,_,_,_,_,_,_,_,_,_,_,_,_,_,_,_,_,_,_,_,_,_,_,_,_,_,_,_,_,_,_,_,_,_,_,_,_,_,_,_,_,_,_,_,_,_,_,_,_,_,_,_,_,_,_,_,_,_,_,_,_,_]) rfl ?_
  refine c_ift rfl ?_
  refine c_rseq (n := 83) ⟨rfl, rfl⟩ ?_
  refine s_val (r_assign rfl) ?_
  refine s_val (r_assign rfl) ?_
  refine c_nil (l' := [_,_,_,_,_,_,_,_,_,_,_,_,_,_,_,_,_,_,_,_,_,_,_,_,_,_,_,_,_,_,_,_,_,_,_,_,_,_,_,_,_,_,_,_,_,_,_,_,_,_,_,_,_,_,_,_,_,_,_,_,_,_,_,_,_,_,_,_,_,_,_,_,_,_,_,_,_,_,_,_,_,_,_]) rfl ?_
  refine wp_ret (x_thenRet ?_)
  refine e_ret (res2 rfl rfl rfl) ⟨_, rfl, ?_⟩
  exact .inr ⟨hrt, rfl, H.sub (List.nil_sublist _)⟩

end Go.Proofs.Ytihpeihlpgompaa

