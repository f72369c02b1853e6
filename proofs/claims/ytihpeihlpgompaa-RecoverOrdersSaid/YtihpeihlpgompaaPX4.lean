import Derived.Test.YtihpeihlpgompaaPX3
namespace Go.Proofs.Ytihpeihlpgompaa
open Go Go.Er
set_option linter.unusedSimpArgs false in
theorem places80 : Places Try.prog #[⟨ "b", 25, 0, false, "", "erewhile/cell", 0⟩, ⟨ "short", 4, 1, false, "", "erewhile/cell", 24⟩] [(0, 1), (1, 1)] := fun w => by simp [Try.sizeOf25 w, Try.sizeOf4 w]
set_option linter.unusedSimpArgs false in
theorem places38 : Places Try.prog #[⟨ "Branch", 3, 0, false, "", "", 0⟩, ⟨ "Vol", 3, 1, false, "", "", 8⟩, ⟨ "Blk", 3, 2, false, "", "", 16⟩] [(0, 1), (1, 1), (2, 1)] := fun w => by simp [Try.sizeOf3 w]

theorem num_l (r : Nat) (a : Option Addr) (st : List UInt8 × Bool) (c n : Nat) (ni : Int) (hni : ni = (n : Int)) (hc : st.1.length ≤ c) (hl : st.1.length ≤ 1000000) (hn1 : 1 ≤ n) (hn4 : n ≤ 4) (w0 : World) (hrX : ∀ w L, St w0 [r] w L → BRow w a st.1) (hown : Go.Er.Own w0 [(r, .cells (rdC a st c).toArray 80 (0, 0))]) :
  Calls Try.prog 28 #[.pointer (some ⟨r, 0, none⟩), .int .i64 ni] w0 fun e w => ∃ v, e = .returned v ∧ v = .int .i64 (rd n st).1 ∧ St w0 [r] w [(r, .cells (rdC (ra a c n st) (rd n st).2 (rc c n st)).toArray 80 (0, 0))] := by
 subst hni
 exact num_spec r a st c n hc hl hn1 hn4 w0 hrX hown

set_option maxHeartbeats 4000000 in
theorem decode_c (a : Option Addr) (bs : List UInt8) (c : Nat) (hc : bs.length ≤ c) (hl : bs.length ≤ 1000000) (w0 : World) (hr : BRow w0 a bs) :
  Calls Try.prog 19 #[.slice a bs.length c] w0 fun e w => ∃ v, e = .returned v ∧ ((∃ (y : Ce) (rest : List UInt8) (a2 : Option Addr) (c2 : Nat) (N : List (Nat × Obj)), decF bs = some (ceP y, rest) ∧ v = .tuple #[.agg (ceC y).toArray, .slice a2 rest.length c2, .int .i64 0] ∧ (∀ W, RdK W a (bs, false) c → RdK W a2 (rest, false) c2) ∧ RowN 1 5 (bC y.body.b) y.body.b.length y.body.a y.body.c N ∧ St w0 [] w N) ∨ (decF bs = none ∧ ∃ e, v = .tuple #[.agg (ceC ce0).toArray, .slice none 0 0, .int .i64 e] ∧ e ≠ 0 ∧ St w0 [] w [])) := by
 have H := St.refl w0
 refine c_enter (args := [.slice a bs.length c]) (l := [.slice a bs.length c, undef, undef, undef, undef, undef, undef, undef, undef, undef, undef, undef, undef, undef, undef, undef, undef, undef, undef, undef, undef, undef, undef, undef, undef, undef, undef, undef, undef, undef, undef, undef, undef, undef, undef, undef, undef, undef, undef, undef, undef, undef, undef, undef, undef, undef, undef, undef, undef, undef, undef, undef, undef, undef, undef, undef, undef, undef, undef, undef, undef, undef, undef, undef, undef, undef, undef, undef, undef, undef, undef, undef, undef, undef, undef, undef, undef, undef, undef, undef, undef, undef, undef, undef, undef, undef]) Try.func19 Try.ntmps19 rfl rfl ?_
 refine c_rseq (n := 86) ⟨rfl, rfl⟩ ?_
 refine s_new (m_alloc (cs := (ceC ce0)) H Try.zeroValue40 rfl) ?_
 intro w b2 H
 refine s_val (r_assign rfl) ?_
 refine s_val (r_assign rfl) ?_
 refine c_nil (l' := [_,_,_,_,_,_,_,_,_,_,_,_,_,_,_,_,_,_,_,_,_,_,_,_,_,_,_,_,_,_,_,_,_,_,_,_,_,_,_,_,_,_,_,_,_,_,_,_,_,_,_,_,_,_,_,_,_,_,_,_,_,_,_,_,_,_,_,_,_,_,_,_,_,_,_,_,_,_,_,_,_,_,_,_,_,_]) rfl ?_
 refine c_seq ?_
 refine c_rseq (n := 86) ⟨rfl, rfl⟩ ?_
 refine s_val (r_move rfl) ?_
 refine s_val (r_lens Try.runUnderlying25 (ec rfl en)) ?_
 refine s_val (r_eql rfl rfl) ?_
 refine c_nil (l' := [_,_,_,_,_,_,_,_,_,_,_,_,_,_,_,_,_,_,_,_,_,_,_,_,_,_,_,_,_,_,_,_,_,_,_,_,_,_,_,_,_,_,_,_,_,_,_,_,_,_,_,_,_,_,_,_,_,_,_,_,_,_,_,_,_,_,_,_,_,_,_,_,_,_,_,_,_,_,_,_,_,_,_,_,_,_]) rfl ?_
 refine c_if rfl (fun h11 => ?_) (fun h11 => ?_)
 ·skip
  refine c_rseq (n := 86) ⟨rfl, rfl⟩ ?_
  refine s_val (r_buildS (zs := ceC ce0) (out := ceC ce0) Try.runUnderlying40 Try.zeroValue40 places40 pn rfl) ?_
  refine s_st (m_storen H 0 11 Try.sizeOf40 rfl rfl (by first | exact (kC_length _) | exact (hC_length _) | exact (ceC_length _) | exact (ptC_length _ _ _ _) | exact (plV_length _ _ _)) (by first | exact (kC_one _) | exact (hC_one _) | exact (ceC_one _) | exact (ptC_one _ _ _ _) | exact (plV_one _ _ _)) rfl (by show 0 + 11 ≤ 11; omega) (ceC_sp _ _)) (L' := (_ :: _)) rfl ?_
  intro w H
  refine s_val (r_assign rfl) ?_
  refine s_val (r_assign rfl) ?_
  refine c_nil (l' := [_,_,_,_,_,_,_,_,_,_,_,_,_,_,_,_,_,_,_,_,_,_,_,_,_,_,_,_,_,_,_,_,_,_,_,_,_,_,_,_,_,_,_,_,_,_,_,_,_,_,_,_,_,_,_,_,_,_,_,_,_,_,_,_,_,_,_,_,_,_,_,_,_,_,_,_,_,_,_,_,_,_,_,_,_,_]) rfl ?_
  refine wp_ret (x_thenRet ?_)
  refine e_ret (rc_three rfl (rc_celln Try.isAgg40 Try.sizeOf40 rfl (H.at 0 rfl) (by first | exact (kC_td _) | exact (hC_td _) | exact (hC_seed _) | exact (ceC_td _) | exact (ceC_place _) | exact (ptC_td _ _ _ _) | exact (plV_td _ _ _)) (by first | exact (kC_length _) | exact (hC_length _) | exact (ceC_length _) | exact (ptC_length _ _ _ _) | exact (plV_length _ _ _))) (rc_tmp rfl) (rc_tmp rfl)) ⟨_, rfl, ?_⟩
  have hz : bs = [] := List.length_eq_zero_iff.1 (by omega)
  exact .inr ⟨if_pos hz, _, rfl, by decide, H.sub (List.nil_sublist _)⟩
 ·skip
  have hne : bs ≠ [] := fun h => by rw [h] at h11; exact h11 rfl
  refine wp_skip ?_
  refine x_thenNormal ?_
  refine c_rseq (n := 86) ⟨rfl, rfl⟩ ?_
  refine s_val (r_move rfl) ?_
  refine s_val (r_buildS Try.runUnderlying80 Try.zeroValue80 places80 (pc rfl pn) (rfl : fillL _ _ _ = some (rdC a (bs, false) c))) ?_
  refine s_new (m_box (cs := (rdC a (bs, false) c)) H rfl rfl) ?_
  intro w b15 H
  refine s_val (r_assign rfl) ?_
  refine c_nil (l' := [_,_,_,_,_,_,_,_,_,_,_,_,_,_,_,_,_,_,_,_,_,_,_,_,_,_,_,_,_,_,_,_,_,_,_,_,_,_,_,_,_,_,_,_,_,_,_,_,_,_,_,_,_,_,_,_,_,_,_,_,_,_,_,_,_,_,_,_,_,_,_,_,_,_,_,_,_,_,_,_,_,_,_,_,_,_]) rfl ?_
  refine c_rseq (n := 86) ⟨rfl, rfl⟩ ?_
  refine s_val (r_move rfl) ?_
  have KR : RdK w0 a (bs, false) c := ⟨hr, hc, hl⟩
  have K0 : ∀ W, RdK W a (bs, false) c → RdK W a (bs, false) c := fun _ h => h
  refine s_call (r_call Try.call28 (ec rfl (ec rfl en))) (num_l b15 a (bs, false) c 1 1 rfl (K0 w0 KR).2.1 (K0 w0 KR).2.2 (by omega) (by omega) _ (fun _ _ h2 => (K0 w0 KR).1.st ((St.callf (A := []) (F := [_]) H h2).sub (List.nil_sublist _))) (H.ownsM (.cons_cons _ (List.nil_sublist _)))) ?_
  rintro v w ⟨rfl, HC⟩
  replace H : St w0 [] w (_ :: _ :: _) := St.callf (A := []) (F := [_]) H HC
  have Ks1 : ∀ W, RdK W a (bs, false) c → RdK W (ra a c 1 (bs, false)) (rd 1 (bs, false)).2 (rc c 1 (bs, false)) := fun W hW => (K0 W hW).rd 1
  have hrgs1 := rd_rng (st := (bs, false)) (n := 1) (by omega)
  obtain ⟨s1, hqs1⟩ : ∃ s, s = rd 1 (bs, false) := ⟨_, rfl⟩
  rw [← hqs1] at H Ks1 hrgs1 ⊢
  obtain ⟨as1, hrs1⟩ : ∃ s, s = ra a c 1 (bs, false) := ⟨_, rfl⟩
  obtain ⟨cs1, hts1⟩ : ∃ s, s = rc c 1 (bs, false) := ⟨_, rfl⟩
  rw [← hrs1, ← hts1] at H Ks1
  refine s_val (r_buildS Try.runUnderlying40 Try.zeroValue40 places40 (pc rfl pn) (rfl : fillL _ _ _ = some (ceC (⟨s1.1, 0, 0, 0, 0, 0, 0, 0, 0, 0, bdZ⟩ : Ce)))) ?_
  refine s_new (m_alloc (cs := (ceC ce0)) H Try.zeroValue40 rfl) ?_
  intro w b6 H
  refine s_st (m_storen H 0 11 Try.sizeOf40 rfl rfl (by first | exact (kC_length _) | exact (hC_length _) | exact (ceC_length _) | exact (ptC_length _ _ _ _) | exact (plV_length _ _ _)) (by first | exact (kC_one _) | exact (hC_one _) | exact (ceC_one _) | exact (ptC_one _ _ _ _) | exact (plV_one _ _ _)) rfl (by show 0 + 11 ≤ 11; omega) (ceC_sp _ _)) (L' := (_ :: _ :: _ :: _)) rfl ?_
  intro w H
  refine c_nil (l' := [_,_,_,_,_,_,_,_,_,_,_,_,_,_,_,_,_,_,_,_,_,_,_,_,_,_,_,_,_,_,_,_,_,_,_,_,_,_,_,_,_,_,_,_,_,_,_,_,_,_,_,_,_,_,_,_,_,_,_,_,_,_,_,_,_,_,_,_,_,_,_,_,_,_,_,_,_,_,_,_,_,_,_,_,_,_]) rfl ?_
  refine c_rseq (n := 86) ⟨rfl, rfl⟩ ?_
  refine s_val (r_fieldAddr (k := 0) Try.runUnderlying40 rfl Try.sizeOf3 (by decide) rfl rfl) ?_
  refine s_val (r_load1 Try.isAgg3 rfl (H.at 0 rfl) rfl) ?_
  refine s_call (r_call Try.call27 (ec rfl en)) (has_yn _ _) ?_
  rintro v w (⟨hok, rfl, HC⟩ | ⟨hok, rfl, HC⟩)
  ·skip
   replace H := H.quiet HC
   refine s_val (r_move rfl) ?_
   refine s_val (r_extract rfl rfl) ?_
   refine s_val (r_extract rfl rfl) ?_
   refine s_new (m_alloc (cs := (ptC false false false false)) H Try.zeroValue75 rfl) ?_
   intro w b7 H
   refine s_st (m_storen H 0 4 Try.sizeOf75 rfl rfl (by first | exact (kC_length _) | exact (hC_length _) | exact (ceC_length _) | exact (ptC_length _ _ _ _) | exact (plV_length _ _ _)) (by first | exact (kC_one _) | exact (hC_one _) | exact (ceC_one _) | exact (ptC_one _ _ _ _) | exact (plV_one _ _ _)) rfl (by show 0 + 4 ≤ 4; omega) (rfl : _ = ptC (kPl s1.1) (kRf s1.1) (kMi s1.1) (kBo s1.1))) (L' := (_ :: _ :: _ :: _ :: _)) rfl ?_
   intro w H
   refine s_val (r_assign rfl) ?_
   refine c_nil (l' := [_,_,_,_,_,_,_,_,_,_,_,_,_,_,_,_,_,_,_,_,_,_,_,_,_,_,_,_,_,_,_,_,_,_,_,_,_,_,_,_,_,_,_,_,_,_,_,_,_,_,_,_,_,_,_,_,_,_,_,_,_,_,_,_,_,_,_,_,_,_,_,_,_,_,_,_,_,_,_,_,_,_,_,_,_,_]) rfl ?_
   refine c_seq ?_
   refine c_rseq (n := 86) ⟨rfl, rfl⟩ ?_
   refine s_val (r_move rfl) ?_
   refine s_val (r_not rfl) ?_
   refine c_nil (l' := [_,_,_,_,_,_,_,_,_,_,_,_,_,_,_,_,_,_,_,_,_,_,_,_,_,_,_,_,_,_,_,_,_,_,_,_,_,_,_,_,_,_,_,_,_,_,_,_,_,_,_,_,_,_,_,_,_,_,_,_,_,_,_,_,_,_,_,_,_,_,_,_,_,_,_,_,_,_,_,_,_,_,_,_,_,_]) rfl ?_
   refine c_iff rfl ?_
   refine wp_skip ?_
   refine x_thenNormal ?_
   refine c_rseq (n := 86) ⟨rfl, rfl⟩ ?_
   refine s_val (r_move rfl) ?_
   refine s_call (r_call Try.call28 (ec rfl (ec rfl en))) (num_l b15 as1 s1.2 cs1 2 2 rfl (Ks1 w0 KR).2.1 (Ks1 w0 KR).2.2 (by omega) (by omega) _ (fun _ _ h2 => (Ks1 w0 KR).1.st ((St.callf (A := [_,_]) (F := [_]) H h2).sub (List.nil_sublist _))) (H.ownsM (.cons _ (.cons _ (.cons_cons _ (List.nil_sublist _)))))) ?_
   rintro v w ⟨rfl, HC⟩
   replace H : St w0 [] w (_ :: _ :: _ :: _ :: _) := St.callf (A := [_,_]) (F := [_]) H HC
   have Ks2 : ∀ W, RdK W a (bs, false) c → RdK W (ra as1 cs1 2 s1.2) (rd 2 s1.2).2 (rc cs1 2 s1.2) := fun W hW => (Ks1 W hW).rd 2
   have hrgs2 := rd_rng (st := s1.2) (n := 2) (by omega)
   obtain ⟨s2, hqs2⟩ : ∃ s, s = rd 2 s1.2 := ⟨_, rfl⟩
   rw [← hqs2] at H Ks2 hrgs2 ⊢
   obtain ⟨as2, hrs2⟩ : ∃ s, s = ra as1 cs1 2 s1.2 := ⟨_, rfl⟩
   obtain ⟨cs2, hts2⟩ : ∃ s, s = rc cs1 2 s1.2 := ⟨_, rfl⟩
   rw [← hrs2, ← hts2] at H Ks2
   refine s_val (r_conv Try.runUnderlying3 Try.runUnderlying24 rfl (w_u64 (by omega) (by omega))) ?_
   refine s_val (r_move rfl) ?_
   refine s_call (r_call Try.call28 (ec rfl (ec rfl en))) (num_l b15 as2 s2.2 cs2 4 4 rfl (Ks2 w0 KR).2.1 (Ks2 w0 KR).2.2 (by omega) (by omega) _ (fun _ _ h2 => (Ks2 w0 KR).1.st ((St.callf (A := [_,_]) (F := [_]) H h2).sub (List.nil_sublist _))) (H.ownsM (.cons _ (.cons _ (.cons_cons _ (List.nil_sublist _)))))) ?_
   rintro v w ⟨rfl, HC⟩
   replace H : St w0 [] w (_ :: _ :: _ :: _ :: _) := St.callf (A := [_,_]) (F := [_]) H HC
   have Ks3 : ∀ W, RdK W a (bs, false) c → RdK W (ra as2 cs2 4 s2.2) (rd 4 s2.2).2 (rc cs2 4 s2.2) := fun W hW => (Ks2 W hW).rd 4
   have hrgs3 := rd_rng (st := s2.2) (n := 4) (by omega)
   obtain ⟨s3, hqs3⟩ : ∃ s, s = rd 4 s2.2 := ⟨_, rfl⟩
   rw [← hqs3] at H Ks3 hrgs3 ⊢
   obtain ⟨as3, hrs3⟩ : ∃ s, s = ra as2 cs2 4 s2.2 := ⟨_, rfl⟩
   obtain ⟨cs3, hts3⟩ : ∃ s, s = rc cs2 4 s2.2 := ⟨_, rfl⟩
   rw [← hrs3, ← hts3] at H Ks3
   refine s_val (r_fieldAddr (k := 1) Try.runUnderlying40 rfl Try.sizeOf24 (by decide) rfl rfl) ?_
   refine s_st (m_store1 H 1 Try.sizeOf24 rfl rfl rfl rfl (by show _ < 11; omega) rfl) (L' := (_ :: _ :: _ :: _ :: _)) rfl ?_
   intro w H
   refine s_val (r_fieldAddr (k := 2) Try.runUnderlying40 rfl Try.sizeOf3 (by decide) rfl rfl) ?_
   refine s_st (m_store1 H 1 Try.sizeOf3 rfl rfl rfl rfl (by show _ < 11; omega) (rfl : _ = ceC (⟨s1.1, s2.1, s3.1, 0, 0, 0, 0, 0, 0, 0, bdZ⟩ : Ce))) (L' := (_ :: _ :: _ :: _ :: _)) rfl ?_
   intro w H
   refine c_nil (l' := [_,_,_,_,_,_,_,_,_,_,_,_,_,_,_,_,_,_,_,_,_,_,_,_,_,_,_,_,_,_,_,_,_,_,_,_,_,_,_,_,_,_,_,_,_,_,_,_,_,_,_,_,_,_,_,_,_,_,_,_,_,_,_,_,_,_,_,_,_,_,_,_,_,_,_,_,_,_,_,_,_,_,_,_,_,_]) rfl ?_
   obtain ⟨p1, hdp1⟩ : ∃ p, p = rdI (kPl s1.1) 1 s3.2 := ⟨_, rfl⟩
   obtain ⟨p2, hdp2⟩ : ∃ p, p = rdI (kPl s1.1) 1 p1.2 := ⟨_, rfl⟩
   obtain ⟨p3, hdp3⟩ : ∃ p, p = rdI (kPl s1.1) 2 p2.2 := ⟨_, rfl⟩
   refine c_cut (fun (l0 : List Value) (l : List Value) (w : World) => ∃ (u35 u36 u37 u38 u39 u40 u41 u42 u43 u44 : Value) (a4 : Option Addr) (c4 : Nat), l = ovr l0 [N_, N_, N_, N_, N_, N_, N_, N_, N_, N_, N_, N_, N_, N_, N_, N_, N_, N_, N_, N_, N_, N_, N_, N_, N_, N_, N_, N_, N_, N_, N_, N_, N_, N_, N_, Y_ u35, Y_ u36, Y_ u37, Y_ u38, Y_ u39, Y_ u40, Y_ u41, Y_ u42, Y_ u43, Y_ u44] ∧ (∀ W, RdK W a (bs, false) c → RdK W a4 p3.2 c4) ∧ St w0 [] w [(b7, .cells (ptC (kPl s1.1) (kRf s1.1) (kMi s1.1) (kBo s1.1)).toArray 75 (0, 0)), (b6, .cells (ceC (⟨s1.1, s2.1, s3.1, p1.1, p2.1, p3.1, 0, 0, 0, 0, bdZ⟩ : Ce)).toArray 40 (0, 0)), (b15, .cells (rdC a4 p3.2 c4).toArray 80 (0, 0)), (b2, .cells (ceC ce0).toArray 40 (0, 0))]) ?_ ?_
   ·skip
    refine c_rseq (n := 86) ⟨rfl, rfl⟩ ?_
    refine s_val (r_fieldAddr (k := 0) Try.runUnderlying75 rfl Try.sizeOf4 (by decide) rfl rfl) ?_
    refine s_val (r_load1 Try.isAgg4 rfl (H.at 0 rfl) rfl) ?_
    refine c_nil (l' := [_,_,_,_,_,_,_,_,_,_,_,_,_,_,_,_,_,_,_,_,_,_,_,_,_,_,_,_,_,_,_,_,_,_,_,_,_,_,_,_,_,_,_,_,_,_,_,_,_,_,_,_,_,_,_,_,_,_,_,_,_,_,_,_,_,_,_,_,_,_,_,_,_,_,_,_,_,_,_,_,_,_,_,_,_,_]) rfl ?_
    refine c_ifb rfl (fun h36 => ?_) (fun h36 => ?_)
    ·skip
     have yp1 : p1 = rd 1 s3.2 := by rw [hdp1]; exact rdI_yes h36 _ _
     have yp2 : p2 = rd 1 p1.2 := by rw [hdp2]; exact rdI_yes h36 _ _
     have yp3 : p3 = rd 2 p2.2 := by rw [hdp3]; exact rdI_yes h36 _ _
     refine c_region (n := 86) ⟨rfl, rfl⟩ ?_
     refine s_val (r_move rfl) ?_
     refine s_call (r_call Try.call28 (ec rfl (ec rfl en))) (num_l b15 as3 s3.2 cs3 1 1 rfl (Ks3 w0 KR).2.1 (Ks3 w0 KR).2.2 (by omega) (by omega) _ (fun _ _ h2 => (Ks3 w0 KR).1.st ((St.callf (A := [_,_]) (F := [_]) H h2).sub (List.nil_sublist _))) (H.ownsM (.cons _ (.cons _ (.cons_cons _ (List.nil_sublist _)))))) ?_
     rintro v w ⟨rfl, HC⟩
     replace H : St w0 [] w (_ :: _ :: _ :: _ :: _) := St.callf (A := [_,_]) (F := [_]) H HC
     have Kp1 : ∀ W, RdK W a (bs, false) c → RdK W (ra as3 cs3 1 s3.2) (rd 1 s3.2).2 (rc cs3 1 s3.2) := fun W hW => (Ks3 W hW).rd 1
     have hrgp1 := rd_rng (st := s3.2) (n := 1) (by omega)
     rw [← yp1] at H Kp1 hrgp1 ⊢
     obtain ⟨ap1, hrp1⟩ : ∃ s, s = ra as3 cs3 1 s3.2 := ⟨_, rfl⟩
     obtain ⟨cp1, htp1⟩ : ∃ s, s = rc cs3 1 s3.2 := ⟨_, rfl⟩
     rw [← hrp1, ← htp1] at H Kp1
     refine s_val (r_move rfl) ?_
     refine s_call (r_call Try.call28 (ec rfl (ec rfl en))) (num_l b15 ap1 p1.2 cp1 1 1 rfl (Kp1 w0 KR).2.1 (Kp1 w0 KR).2.2 (by omega) (by omega) _ (fun _ _ h2 => (Kp1 w0 KR).1.st ((St.callf (A := [_,_]) (F := [_]) H h2).sub (List.nil_sublist _))) (H.ownsM (.cons _ (.cons _ (.cons_cons _ (List.nil_sublist _)))))) ?_
     rintro v w ⟨rfl, HC⟩
     replace H : St w0 [] w (_ :: _ :: _ :: _ :: _) := St.callf (A := [_,_]) (F := [_]) H HC
     have Kp2 : ∀ W, RdK W a (bs, false) c → RdK W (ra ap1 cp1 1 p1.2) (rd 1 p1.2).2 (rc cp1 1 p1.2) := fun W hW => (Kp1 W hW).rd 1
     have hrgp2 := rd_rng (st := p1.2) (n := 1) (by omega)
     rw [← yp2] at H Kp2 hrgp2 ⊢
     obtain ⟨ap2, hrp2⟩ : ∃ s, s = ra ap1 cp1 1 p1.2 := ⟨_, rfl⟩
     obtain ⟨cp2, htp2⟩ : ∃ s, s = rc cp1 1 p1.2 := ⟨_, rfl⟩
     rw [← hrp2, ← htp2] at H Kp2
     refine s_val (r_move rfl) ?_
     refine s_call (r_call Try.call28 (ec rfl (ec rfl en))) (num_l b15 ap2 p2.2 cp2 2 2 rfl (Kp2 w0 KR).2.1 (Kp2 w0 KR).2.2 (by omega) (by omega) _ (fun _ _ h2 => (Kp2 w0 KR).1.st ((St.callf (A := [_,_]) (F := [_]) H h2).sub (List.nil_sublist _))) (H.ownsM (.cons _ (.cons _ (.cons_cons _ (List.nil_sublist _)))))) ?_
     rintro v w ⟨rfl, HC⟩
     replace H : St w0 [] w (_ :: _ :: _ :: _ :: _) := St.callf (A := [_,_]) (F := [_]) H HC
     have Kp3 : ∀ W, RdK W a (bs, false) c → RdK W (ra ap2 cp2 2 p2.2) (rd 2 p2.2).2 (rc cp2 2 p2.2) := fun W hW => (Kp2 W hW).rd 2
     have hrgp3 := rd_rng (st := p2.2) (n := 2) (by omega)
     rw [← yp3] at H Kp3 hrgp3 ⊢
     obtain ⟨ap3, hrp3⟩ : ∃ s, s = ra ap2 cp2 2 p2.2 := ⟨_, rfl⟩
     obtain ⟨cp3, htp3⟩ : ∃ s, s = rc cp2 2 p2.2 := ⟨_, rfl⟩
     rw [← hrp3, ← htp3] at H Kp3
     refine s_val (r_buildS Try.runUnderlying38 Try.zeroValue38 places38 (pc rfl (pc rfl (pc rfl pn))) (rfl : fillL _ _ _ = some (plV p1.1 p2.1 p3.1))) ?_
     refine s_val (r_fieldAddr (k := 3) Try.runUnderlying40 rfl Try.sizeOf38 (by decide) rfl rfl) ?_
     refine s_st (m_storen H 1 3 Try.sizeOf38 rfl rfl (by first | exact (kC_length _) | exact (hC_length _) | exact (ceC_length _) | exact (ptC_length _ _ _ _) | exact (plV_length _ _ _)) (by first | exact (kC_one _) | exact (hC_one _) | exact (ceC_one _) | exact (ptC_one _ _ _ _) | exact (plV_one _ _ _)) rfl (by show 3 + 3 ≤ 11; omega) (rfl : _ = ceC (⟨s1.1, s2.1, s3.1, p1.1, p2.1, p3.1, 0, 0, 0, 0, bdZ⟩ : Ce))) (L' := (_ :: _ :: _ :: _ :: _)) rfl ?_
     intro w H
     refine c_nil0 (l' := [_,_,_,_,_,_,_,_,_,_,_,_,_,_,_,_,_,_,_,_,_,_,_,_,_,_,_,_,_,_,_,_,_,_,_,_,_,_,_,_,_,_,_,_,_,_,_,_,_,_,_,_,_,_,_,_,_,_,_,_,_,_,_,_,_,_,_,_,_,_,_,_,_,_,_,_,_,_,_,_,_,_,_,_,_,_]) rfl ?_
     exact ⟨_, rfl, ⟨_,_,_,_,_,_,_,_,_,_,_,_, rfl, Kp3, H⟩⟩
    ·skip
     have ep1 : p1 = (0, s3.2) := by rw [hdp1]; exact rdI_no h36 _ _
     have ep2 : p2 = (0, s3.2) := by rw [hdp2, ep1]; exact rdI_no h36 _ _
     have ep3 : p3 = (0, s3.2) := by rw [hdp3, ep2]; exact rdI_no h36 _ _
     have hcl : ceC (⟨s1.1, s2.1, s3.1, 0, 0, 0, 0, 0, 0, 0, bdZ⟩ : Ce) = ceC (⟨s1.1, s2.1, s3.1, p1.1, p2.1, p3.1, 0, 0, 0, 0, bdZ⟩ : Ce) := by rw [ep1, ep2, ep3]
     have hst : s3.2 = p3.2 := by rw [ep3]
     rw [hcl, hst] at H
     rw [hst] at Ks3
     refine wp_skip ?_
     exact ⟨_, rfl, ⟨_,_,_,_,_,_,_,_,_,_,_,_, rfl, Ks3, H⟩⟩
   ·skip
    rintro l w ⟨u35, u36, u37, u38, u39, u40, u41, u42, u43, u44, a4, c4, hl, K4, H⟩
    obtain rfl := hl.trans (rfl : _ = [_,_,_,_,_,_,_,_,_,_,_,_,_,_,_,_,_,_,_,_,_,_,_,_,_,_,_,_,_,_,_,_,_,_,_,_,_,_,_,_,_,_,_,_,_,_,_,_,_,_,_,_,_,_,_,_,_,_,_,_,_,_,_,_,_,_,_,_,_,_,_,_,_,_,_,_,_,_,_,_,_,_,_,_,_,_])
    clear hl
    obtain ⟨f, hdf⟩ : ∃ p, p = rdI (kRf s1.1) 2 p3.2 := ⟨_, rfl⟩
    refine c_cut (fun (l0 : List Value) (l : List Value) (w : World) => ∃ (u45 u46 u47 u48 u49 u50 : Value) (a5 : Option Addr) (c5 : Nat), l = ovr l0 [N_, N_, N_, N_, N_, N_, N_, N_, N_, N_, N_, N_, N_, N_, N_, N_, N_, N_, N_, N_, N_, N_, N_, N_, N_, N_, N_, N_, N_, N_, N_, N_, N_, N_, N_, N_, N_, N_, N_, N_, N_, N_, N_, N_, N_, Y_ u45, Y_ u46, Y_ u47, Y_ u48, Y_ u49, Y_ u50] ∧ (∀ W, RdK W a (bs, false) c → RdK W a5 f.2 c5) ∧ St w0 [] w [(b7, .cells (ptC (kPl s1.1) (kRf s1.1) (kMi s1.1) (kBo s1.1)).toArray 75 (0, 0)), (b6, .cells (ceC (⟨s1.1, s2.1, s3.1, p1.1, p2.1, p3.1, f.1, 0, 0, 0, bdZ⟩ : Ce)).toArray 40 (0, 0)), (b15, .cells (rdC a5 f.2 c5).toArray 80 (0, 0)), (b2, .cells (ceC ce0).toArray 40 (0, 0))]) ?_ ?_
    ·skip
     refine c_rseq (n := 86) ⟨rfl, rfl⟩ ?_
     refine s_val (r_fieldAddr (k := 1) Try.runUnderlying75 rfl Try.sizeOf4 (by decide) rfl rfl) ?_
     refine s_val (r_load1 Try.isAgg4 rfl (H.at 0 rfl) rfl) ?_
     refine c_nil (l' := [_,_,_,_,_,_,_,_,_,_,_,_,_,_,_,_,_,_,_,_,_,_,_,_,_,_,_,_,_,_,_,_,_,_,_,_,_,_,_,_,_,_,_,_,_,_,_,_,_,_,_,_,_,_,_,_,_,_,_,_,_,_,_,_,_,_,_,_,_,_,_,_,_,_,_,_,_,_,_,_,_,_,_,_,_,_]) rfl ?_
     refine c_ifb rfl (fun h46 => ?_) (fun h46 => ?_)
     ·skip
      have yf : f = rd 2 p3.2 := by rw [hdf]; exact rdI_yes h46 _ _
      refine c_region (n := 86) ⟨rfl, rfl⟩ ?_
      refine s_val (r_move rfl) ?_
      refine s_call (r_call Try.call28 (ec rfl (ec rfl en))) (num_l b15 a4 p3.2 c4 2 2 rfl (K4 w0 KR).2.1 (K4 w0 KR).2.2 (by omega) (by omega) _ (fun _ _ h2 => (K4 w0 KR).1.st ((St.callf (A := [_,_]) (F := [_]) H h2).sub (List.nil_sublist _))) (H.ownsM (.cons _ (.cons _ (.cons_cons _ (List.nil_sublist _)))))) ?_
      rintro v w ⟨rfl, HC⟩
      replace H : St w0 [] w (_ :: _ :: _ :: _ :: _) := St.callf (A := [_,_]) (F := [_]) H HC
      have Kf : ∀ W, RdK W a (bs, false) c → RdK W (ra a4 c4 2 p3.2) (rd 2 p3.2).2 (rc c4 2 p3.2) := fun W hW => (K4 W hW).rd 2
      have hrgf := rd_rng (st := p3.2) (n := 2) (by omega)
      rw [← yf] at H Kf hrgf ⊢
      obtain ⟨af, hrf⟩ : ∃ s, s = ra a4 c4 2 p3.2 := ⟨_, rfl⟩
      obtain ⟨cf, htf⟩ : ∃ s, s = rc c4 2 p3.2 := ⟨_, rfl⟩
      rw [← hrf, ← htf] at H Kf
      refine s_val (r_conv Try.runUnderlying3 Try.runUnderlying24 rfl (w_u64 (by omega) (by omega))) ?_
      refine s_val (r_fieldAddr (k := 6) Try.runUnderlying40 rfl Try.sizeOf24 (by decide) rfl rfl) ?_
      refine s_st (m_store1 H 1 Try.sizeOf24 rfl rfl rfl rfl (by show _ < 11; omega) (rfl : _ = ceC (⟨s1.1, s2.1, s3.1, p1.1, p2.1, p3.1, f.1, 0, 0, 0, bdZ⟩ : Ce))) (L' := (_ :: _ :: _ :: _ :: _)) rfl ?_
      intro w H
      refine c_nil0 (l' := [_,_,_,_,_,_,_,_,_,_,_,_,_,_,_,_,_,_,_,_,_,_,_,_,_,_,_,_,_,_,_,_,_,_,_,_,_,_,_,_,_,_,_,_,_,_,_,_,_,_,_,_,_,_,_,_,_,_,_,_,_,_,_,_,_,_,_,_,_,_,_,_,_,_,_,_,_,_,_,_,_,_,_,_,_,_]) rfl ?_
      exact ⟨_, rfl, ⟨_,_,_,_,_,_,_,_, rfl, Kf, H⟩⟩
     ·skip
      have ef : f = (0, p3.2) := by rw [hdf]; exact rdI_no h46 _ _
      have hcl : ceC (⟨s1.1, s2.1, s3.1, p1.1, p2.1, p3.1, 0, 0, 0, 0, bdZ⟩ : Ce) = ceC (⟨s1.1, s2.1, s3.1, p1.1, p2.1, p3.1, f.1, 0, 0, 0, bdZ⟩ : Ce) := by rw [ef]
      have hst : p3.2 = f.2 := by rw [ef]
      rw [hcl, hst] at H
      rw [hst] at K4
      refine wp_skip ?_
      exact ⟨_, rfl, ⟨_,_,_,_,_,_,_,_, rfl, K4, H⟩⟩
    ·skip
     rintro l w ⟨u45, u46, u47, u48, u49, u50, a5, c5, hl, K5, H⟩
     obtain rfl := hl.trans (rfl : _ = [_,_,_,_,_,_,_,_,_,_,_,_,_,_,_,_,_,_,_,_,_,_,_,_,_,_,_,_,_,_,_,_,_,_,_,_,_,_,_,_,_,_,_,_,_,_,_,_,_,_,_,_,_,_,_,_,_,_,_,_,_,_,_,_,_,_,_,_,_,_,_,_,_,_,_,_,_,_,_,_,_,_,_,_,_,_])
     clear hl
     obtain ⟨m1, hdm1⟩ : ∃ p, p = rdI (kMi s1.1) 4 f.2 := ⟨_, rfl⟩
     obtain ⟨m2, hdm2⟩ : ∃ p, p = rdI (kMi s1.1) 4 m1.2 := ⟨_, rfl⟩
     obtain ⟨m3, hdm3⟩ : ∃ p, p = rdI (kMi s1.1) 4 m2.2 := ⟨_, rfl⟩
     refine c_cut (fun (l0 : List Value) (l : List Value) (w : World) => ∃ (u51 u52 u53 u54 u55 u56 u57 u58 u59 u60 u61 : Value) (a6 : Option Addr) (c6 : Nat), l = ovr l0 [N_, N_, N_, N_, N_, N_, N_, N_, N_, N_, N_, N_, N_, N_, N_, N_, N_, N_, N_, N_, N_, N_, N_, N_, N_, N_, N_, N_, N_, N_, N_, N_, N_, N_, N_, N_, N_, N_, N_, N_, N_, N_, N_, N_, N_, N_, N_, N_, N_, N_, N_, Y_ u51, Y_ u52, Y_ u53, Y_ u54, Y_ u55, Y_ u56, Y_ u57, Y_ u58, Y_ u59, Y_ u60, Y_ u61] ∧ (∀ W, RdK W a (bs, false) c → RdK W a6 m3.2 c6) ∧ St w0 [] w [(b7, .cells (ptC (kPl s1.1) (kRf s1.1) (kMi s1.1) (kBo s1.1)).toArray 75 (0, 0)), (b6, .cells (ceC (⟨s1.1, s2.1, s3.1, p1.1, p2.1, p3.1, f.1, m1.1, m2.1, m3.1, bdZ⟩ : Ce)).toArray 40 (0, 0)), (b15, .cells (rdC a6 m3.2 c6).toArray 80 (0, 0)), (b2, .cells (ceC ce0).toArray 40 (0, 0))]) ?_ ?_
     ·skip
      refine c_rseq (n := 86) ⟨rfl, rfl⟩ ?_
      refine s_val (r_fieldAddr (k := 2) Try.runUnderlying75 rfl Try.sizeOf4 (by decide) rfl rfl) ?_
      refine s_val (r_load1 Try.isAgg4 rfl (H.at 0 rfl) rfl) ?_
      refine c_nil (l' := [_,_,_,_,_,_,_,_,_,_,_,_,_,_,_,_,_,_,_,_,_,_,_,_,_,_,_,_,_,_,_,_,_,_,_,_,_,_,_,_,_,_,_,_,_,_,_,_,_,_,_,_,_,_,_,_,_,_,_,_,_,_,_,_,_,_,_,_,_,_,_,_,_,_,_,_,_,_,_,_,_,_,_,_,_,_]) rfl ?_
      refine c_ifb rfl (fun h52 => ?_) (fun h52 => ?_)
      ·skip
       have ym1 : m1 = rd 4 f.2 := by rw [hdm1]; exact rdI_yes h52 _ _
       have ym2 : m2 = rd 4 m1.2 := by rw [hdm2]; exact rdI_yes h52 _ _
       have ym3 : m3 = rd 4 m2.2 := by rw [hdm3]; exact rdI_yes h52 _ _
       refine c_region (n := 86) ⟨rfl, rfl⟩ ?_
       refine s_val (r_move rfl) ?_
       refine s_call (r_call Try.call28 (ec rfl (ec rfl en))) (num_l b15 a5 f.2 c5 4 4 rfl (K5 w0 KR).2.1 (K5 w0 KR).2.2 (by omega) (by omega) _ (fun _ _ h2 => (K5 w0 KR).1.st ((St.callf (A := [_,_]) (F := [_]) H h2).sub (List.nil_sublist _))) (H.ownsM (.cons _ (.cons _ (.cons_cons _ (List.nil_sublist _)))))) ?_
       rintro v w ⟨rfl, HC⟩
       replace H : St w0 [] w (_ :: _ :: _ :: _ :: _) := St.callf (A := [_,_]) (F := [_]) H HC
       have Km1 : ∀ W, RdK W a (bs, false) c → RdK W (ra a5 c5 4 f.2) (rd 4 f.2).2 (rc c5 4 f.2) := fun W hW => (K5 W hW).rd 4
       have hrgm1 := rd_rng (st := f.2) (n := 4) (by omega)
       rw [← ym1] at H Km1 hrgm1 ⊢
       obtain ⟨am1, hrm1⟩ : ∃ s, s = ra a5 c5 4 f.2 := ⟨_, rfl⟩
       obtain ⟨cm1, htm1⟩ : ∃ s, s = rc c5 4 f.2 := ⟨_, rfl⟩
       rw [← hrm1, ← htm1] at H Km1
       refine s_val (r_move rfl) ?_
       refine s_call (r_call Try.call28 (ec rfl (ec rfl en))) (num_l b15 am1 m1.2 cm1 4 4 rfl (Km1 w0 KR).2.1 (Km1 w0 KR).2.2 (by omega) (by omega) _ (fun _ _ h2 => (Km1 w0 KR).1.st ((St.callf (A := [_,_]) (F := [_]) H h2).sub (List.nil_sublist _))) (H.ownsM (.cons _ (.cons _ (.cons_cons _ (List.nil_sublist _)))))) ?_
       rintro v w ⟨rfl, HC⟩
       replace H : St w0 [] w (_ :: _ :: _ :: _ :: _) := St.callf (A := [_,_]) (F := [_]) H HC
       have Km2 : ∀ W, RdK W a (bs, false) c → RdK W (ra am1 cm1 4 m1.2) (rd 4 m1.2).2 (rc cm1 4 m1.2) := fun W hW => (Km1 W hW).rd 4
       have hrgm2 := rd_rng (st := m1.2) (n := 4) (by omega)
       rw [← ym2] at H Km2 hrgm2 ⊢
       obtain ⟨am2, hrm2⟩ : ∃ s, s = ra am1 cm1 4 m1.2 := ⟨_, rfl⟩
       obtain ⟨cm2, htm2⟩ : ∃ s, s = rc cm1 4 m1.2 := ⟨_, rfl⟩
       rw [← hrm2, ← htm2] at H Km2
       refine s_val (r_move rfl) ?_
       refine s_call (r_call Try.call28 (ec rfl (ec rfl en))) (num_l b15 am2 m2.2 cm2 4 4 rfl (Km2 w0 KR).2.1 (Km2 w0 KR).2.2 (by omega) (by omega) _ (fun _ _ h2 => (Km2 w0 KR).1.st ((St.callf (A := [_,_]) (F := [_]) H h2).sub (List.nil_sublist _))) (H.ownsM (.cons _ (.cons _ (.cons_cons _ (List.nil_sublist _)))))) ?_
       rintro v w ⟨rfl, HC⟩
       replace H : St w0 [] w (_ :: _ :: _ :: _ :: _) := St.callf (A := [_,_]) (F := [_]) H HC
       have Km3 : ∀ W, RdK W a (bs, false) c → RdK W (ra am2 cm2 4 m2.2) (rd 4 m2.2).2 (rc cm2 4 m2.2) := fun W hW => (Km2 W hW).rd 4
       have hrgm3 := rd_rng (st := m2.2) (n := 4) (by omega)
       rw [← ym3] at H Km3 hrgm3 ⊢
       obtain ⟨am3, hrm3⟩ : ∃ s, s = ra am2 cm2 4 m2.2 := ⟨_, rfl⟩
       obtain ⟨cm3, htm3⟩ : ∃ s, s = rc cm2 4 m2.2 := ⟨_, rfl⟩
       rw [← hrm3, ← htm3] at H Km3
       refine s_val (r_fieldAddr (k := 7) Try.runUnderlying40 rfl Try.sizeOf3 (by decide) rfl rfl) ?_
       refine s_st (m_store1 H 1 Try.sizeOf3 rfl rfl rfl rfl (by show _ < 11; omega) rfl) (L' := (_ :: _ :: _ :: _ :: _)) rfl ?_
       intro w H
       refine s_val (r_fieldAddr (k := 8) Try.runUnderlying40 rfl Try.sizeOf3 (by decide) rfl rfl) ?_
       refine s_st (m_store1 H 1 Try.sizeOf3 rfl rfl rfl rfl (by show _ < 11; omega) rfl) (L' := (_ :: _ :: _ :: _ :: _)) rfl ?_
       intro w H
       refine s_val (r_fieldAddr (k := 9) Try.runUnderlying40 rfl Try.sizeOf3 (by decide) rfl rfl) ?_
       refine s_st (m_store1 H 1 Try.sizeOf3 rfl rfl rfl rfl (by show _ < 11; omega) (rfl : _ = ceC (⟨s1.1, s2.1, s3.1, p1.1, p2.1, p3.1, f.1, m1.1, m2.1, m3.1, bdZ⟩ : Ce))) (L' := (_ :: _ :: _ :: _ :: _)) rfl ?_
       intro w H
       refine c_nil0 (l' := [_,_,_,_,_,_,_,_,_,_,_,_,_,_,_,_,_,_,_,_,_,_,_,_,_,_,_,_,_,_,_,_,_,_,_,_,_,_,_,_,_,_,_,_,_,_,_,_,_,_,_,_,_,_,_,_,_,_,_,_,_,_,_,_,_,_,_,_,_,_,_,_,_,_,_,_,_,_,_,_,_,_,_,_,_,_]) rfl ?_
       exact ⟨_, rfl, ⟨_,_,_,_,_,_,_,_,_,_,_,_,_, rfl, Km3, H⟩⟩
      ·skip
       have em1 : m1 = (0, f.2) := by rw [hdm1]; exact rdI_no h52 _ _
       have em2 : m2 = (0, f.2) := by rw [hdm2, em1]; exact rdI_no h52 _ _
       have em3 : m3 = (0, f.2) := by rw [hdm3, em2]; exact rdI_no h52 _ _
       have hcl : ceC (⟨s1.1, s2.1, s3.1, p1.1, p2.1, p3.1, f.1, 0, 0, 0, bdZ⟩ : Ce) = ceC (⟨s1.1, s2.1, s3.1, p1.1, p2.1, p3.1, f.1, m1.1, m2.1, m3.1, bdZ⟩ : Ce) := by rw [em1, em2, em3]
       have hst : f.2 = m3.2 := by rw [em3]
       rw [hcl, hst] at H
       rw [hst] at K5
       refine wp_skip ?_
       exact ⟨_, rfl, ⟨_,_,_,_,_,_,_,_,_,_,_,_,_, rfl, K5, H⟩⟩
     ·skip
      rintro l w ⟨u51, u52, u53, u54, u55, u56, u57, u58, u59, u60, u61, a6, c6, hl, K6, H⟩
      obtain rfl := hl.trans (rfl : _ = [_,_,_,_,_,_,_,_,_,_,_,_,_,_,_,_,_,_,_,_,_,_,_,_,_,_,_,_,_,_,_,_,_,_,_,_,_,_,_,_,_,_,_,_,_,_,_,_,_,_,_,_,_,_,_,_,_,_,_,_,_,_,_,_,_,_,_,_,_,_,_,_,_,_,_,_,_,_,_,_,_,_,_,_,_,_])
      clear hl
      obtain ⟨l, hdl⟩ : ∃ p, p = rdI (kBo s1.1) 1 m3.2 := ⟨_, rfl⟩
      obtain ⟨o, hdo⟩ : ∃ p, p = tkI (kBo s1.1) l.1.toNat l.2 := ⟨_, rfl⟩
      refine c_cut (fun (l0 : List Value) (l : List Value) (w : World) => ∃ (u62 u63 u64 u65 u66 u67 u68 u69 : Value) (a7 : Option Addr) (c7 : Nat) (bd : Bd) (Nb : List (Nat × Obj)), l = ovr l0 [N_, N_, N_, N_, N_, N_, N_, N_, N_, N_, N_, N_, N_, N_, N_, N_, N_, N_, N_, N_, N_, N_, N_, N_, N_, N_, N_, N_, N_, N_, N_, N_, N_, N_, N_, N_, N_, N_, N_, N_, N_, N_, N_, N_, N_, N_, N_, N_, N_, N_, N_, N_, N_, N_, N_, N_, N_, N_, N_, N_, N_, N_, Y_ u62, Y_ u63, Y_ u64, Y_ u65, Y_ u66, Y_ u67, Y_ u68, Y_ u69] ∧ (∀ W, RdK W a (bs, false) c → RdK W a7 o.2 c7) ∧ bd.b = o.1 ∧ RowN 1 5 (bC bd.b) bd.b.length bd.a bd.c Nb ∧ St w0 [] w ((b7, .cells (ptC (kPl s1.1) (kRf s1.1) (kMi s1.1) (kBo s1.1)).toArray 75 (0, 0)) :: (b6, .cells (ceC (⟨s1.1, s2.1, s3.1, p1.1, p2.1, p3.1, f.1, m1.1, m2.1, m3.1, bd⟩ : Ce)).toArray 40 (0, 0)) :: (b15, .cells (rdC a7 o.2 c7).toArray 80 (0, 0)) :: (b2, .cells (ceC ce0).toArray 40 (0, 0)) :: Nb)) ?_ ?_
      ·skip
       refine c_rseq (n := 86) ⟨rfl, rfl⟩ ?_
       refine s_val (r_fieldAddr (k := 3) Try.runUnderlying75 rfl Try.sizeOf4 (by decide) rfl rfl) ?_
       refine s_val (r_load1 Try.isAgg4 rfl (H.at 0 rfl) rfl) ?_
       refine c_nil (l' := [_,_,_,_,_,_,_,_,_,_,_,_,_,_,_,_,_,_,_,_,_,_,_,_,_,_,_,_,_,_,_,_,_,_,_,_,_,_,_,_,_,_,_,_,_,_,_,_,_,_,_,_,_,_,_,_,_,_,_,_,_,_,_,_,_,_,_,_,_,_,_,_,_,_,_,_,_,_,_,_,_,_,_,_,_,_]) rfl ?_
       refine c_ifb rfl (fun h63 => ?_) (fun h63 => ?_)
       ·skip
        have yl : l = rd 1 m3.2 := by rw [hdl]; exact rdI_yes h63 _ _
        have yo : o = tk l.1.toNat l.2 := by rw [hdo]; exact tkI_yes h63 _ _
        refine c_region (n := 86) ⟨rfl, rfl⟩ ?_
        refine s_val (r_move rfl) ?_
        refine s_val (r_move rfl) ?_
        refine s_call (r_call Try.call28 (ec rfl (ec rfl en))) (num_l b15 a6 m3.2 c6 1 1 rfl (K6 w0 KR).2.1 (K6 w0 KR).2.2 (by omega) (by omega) _ (fun _ _ h2 => (K6 w0 KR).1.st ((St.callf (A := [_,_]) (F := [_]) H h2).sub (List.nil_sublist _))) (H.ownsM (.cons _ (.cons _ (.cons_cons _ (List.nil_sublist _)))))) ?_
        rintro v w ⟨rfl, HC⟩
        replace H : St w0 [] w (_ :: _ :: _ :: _ :: _) := St.callf (A := [_,_]) (F := [_]) H HC
        have Kl : ∀ W, RdK W a (bs, false) c → RdK W (ra a6 c6 1 m3.2) (rd 1 m3.2).2 (rc c6 1 m3.2) := fun W hW => (K6 W hW).rd 1
        have hrgl := rd_rng (st := m3.2) (n := 1) (by omega)
        rw [← yl] at H Kl hrgl ⊢
        obtain ⟨al, hrl⟩ : ∃ s, s = ra a6 c6 1 m3.2 := ⟨_, rfl⟩
        obtain ⟨cl, htl⟩ : ∃ s, s = rc c6 1 m3.2 := ⟨_, rfl⟩
        rw [← hrl, ← htl] at H Kl
        obtain ⟨k9, hk9⟩ : ∃ k : Nat, l.1 = (k : Int) := ⟨l.1.toNat, by omega⟩
        rw [hk9] at hrgl ⊢
        have yo2 : o = tk k9 l.2 := by rw [yo, hk9, Int.toNat_natCast]
        refine s_call (r_call Try.call30 (ec rfl (ec rfl en))) (take_spec b15 al l.2 cl k9 (Kl w0 KR).2.1 (Kl w0 KR).2.2 _ (H.ownsM (.cons _ (.cons _ (.cons_cons _ (List.nil_sublist _)))))) ?_
        rintro v w (⟨hlt, rfl, HC⟩ | ⟨hge, rfl, HC⟩)
        ·skip
         replace H : St w0 [] w (_ :: _ :: _ :: _ :: _) := St.callf (A := [_,_]) (F := [_]) H HC
         have eo : o = ([], ([], true)) := by rw [yo2]; exact if_pos hlt
         rw [show (([] : List UInt8), true) = o.2 by rw [eo]] at H
         refine s_call (r_call Try.call29 (ec rfl en)) (bclone_spec none 0 0 [] rfl (by decide) _ (brow_nil _ _)) ?_
         rintro v w ⟨ax, cx, Nx, rfl, hNx, HC⟩
         replace H : St w0 [] w (_ :: _ :: _ :: _ :: Nx) := (H.call0 HC).perm (List.perm_append_comm (l₁ := [_,_,_,_]))
         refine s_val (r_fieldAddr (k := 10) Try.runUnderlying40 rfl Try.sizeOf25 (by decide) rfl rfl) ?_
         refine s_st (m_store1 H 1 Try.sizeOf25 rfl rfl rfl rfl (by show _ < 11; omega) (rfl : _ = ceC (⟨s1.1, s2.1, s3.1, p1.1, p2.1, p3.1, f.1, m1.1, m2.1, m3.1, ⟨ax, [], cx⟩⟩ : Ce))) (L' := (_ :: _ :: _ :: _ :: _)) rfl ?_
         intro w H
         refine c_nil0 (l' := [_,_,_,_,_,_,_,_,_,_,_,_,_,_,_,_,_,_,_,_,_,_,_,_,_,_,_,_,_,_,_,_,_,_,_,_,_,_,_,_,_,_,_,_,_,_,_,_,_,_,_,_,_,_,_,_,_,_,_,_,_,_,_,_,_,_,_,_,_,_,_,_,_,_,_,_,_,_,_,_,_,_,_,_,_,_]) rfl ?_
         exact ⟨_, rfl, ⟨_,_,_,_,_,_,_,_,_,_,_,_, rfl, (by rw [eo]; exact fun _ _ => ⟨brow_nil _ _, Nat.zero_le _, Nat.zero_le _⟩), (by rw [eo]), hNx, H⟩⟩
        ·skip
         replace H : St w0 [] w (_ :: _ :: _ :: _ :: _) := St.callf (A := [_,_]) (F := [_]) H HC
         have eo : o = (l.2.1.take k9, (l.2.1.drop k9, l.2.2)) := by rw [yo2]; exact if_neg (by omega)
         rw [show (l.2.1.drop k9, l.2.2) = o.2 by rw [eo]] at H
         have htk : k9 = (l.2.1.take k9).length := by rw [List.length_take]; omega
         refine s_call (r_call Try.call29 (ec rfl en)) (bclone_spec _ k9 cl (l.2.1.take k9) htk (by have := (Kl w0 KR).2.2; omega) _ ((brow_take (Kl w0 KR).1 k9 cl).st (H.sub (List.nil_sublist _)))) ?_
         rintro v w ⟨ax, cx, Nx, rfl, hNx, HC⟩
         replace H : St w0 [] w (_ :: _ :: _ :: _ :: Nx) := (H.call0 HC).perm (List.perm_append_comm (l₁ := [_,_,_,_]))
         refine s_val (r_fieldAddr (k := 10) Try.runUnderlying40 rfl Try.sizeOf25 (by decide) rfl rfl) ?_
         refine s_st (m_store1 H 1 Try.sizeOf25 rfl rfl rfl rfl (by show _ < 11; omega) (rfl : _ = ceC (⟨s1.1, s2.1, s3.1, p1.1, p2.1, p3.1, f.1, m1.1, m2.1, m3.1, ⟨ax, l.2.1.take k9, cx⟩⟩ : Ce))) (L' := (_ :: _ :: _ :: _ :: _)) rfl ?_
         intro w H
         refine c_nil0 (l' := [_,_,_,_,_,_,_,_,_,_,_,_,_,_,_,_,_,_,_,_,_,_,_,_,_,_,_,_,_,_,_,_,_,_,_,_,_,_,_,_,_,_,_,_,_,_,_,_,_,_,_,_,_,_,_,_,_,_,_,_,_,_,_,_,_,_,_,_,_,_,_,_,_,_,_,_,_,_,_,_,_,_,_,_,_,_]) rfl ?_
         exact ⟨_, rfl, ⟨_,_,_,_,_,_,_,_,_,_,_,_, rfl, (fun W hW => by have h := (Kl W hW).tk k9; rw [← yo2, show ra al cl k9 l.2 = cutA al 1 cl k9 from if_neg (by omega), show rc cl k9 l.2 = cl - k9 from if_neg (by omega)] at h; exact h), (by rw [eo]), hNx, H⟩⟩
       ·skip
        have el : l = (0, m3.2) := by rw [hdl]; exact rdI_no h63 _ _
        have eo : o = ([], m3.2) := by rw [hdo, el]; exact tkI_no h63 _ _
        have hst : m3.2 = o.2 := by rw [eo]
        rw [hst] at H
        rw [hst] at K6
        refine wp_skip ?_
        exact ⟨_, rfl, ⟨_,_,_,_,_,_,_,_,_,_,_,_, rfl, K6, (by rw [eo]; rfl), RowN.nil, H⟩⟩
      ·skip
       rintro l w ⟨u62, u63, u64, u65, u66, u67, u68, u69, a7, c7, bd, Nb, hl, K7, hbd, hNb, H⟩
       obtain rfl := hl.trans (rfl : _ = [_,_,_,_,_,_,_,_,_,_,_,_,_,_,_,_,_,_,_,_,_,_,_,_,_,_,_,_,_,_,_,_,_,_,_,_,_,_,_,_,_,_,_,_,_,_,_,_,_,_,_,_,_,_,_,_,_,_,_,_,_,_,_,_,_,_,_,_,_,_,_,_,_,_,_,_,_,_,_,_,_,_,_,_,_,_])
       clear hl
       refine c_seq ?_
       refine wp_block ?_
       refine c_rseq (n := 86) ⟨rfl, rfl⟩ ?_
       refine s_val (r_move rfl) ?_
       refine s_val (r_nilCheck rfl) ?_
       refine s_val (r_fieldAddr (k := 1) Try.runUnderlying80 rfl Try.sizeOf4 (by decide) rfl rfl) ?_
       refine s_val (r_load1 Try.isAgg4 rfl (H.at 2 rfl) rfl) ?_
       refine s_val (r_assign rfl) ?_
       refine c_nil (l' := [_,_,_,_,_,_,_,_,_,_,_,_,_,_,_,_,_,_,_,_,_,_,_,_,_,_,_,_,_,_,_,_,_,_,_,_,_,_,_,_,_,_,_,_,_,_,_,_,_,_,_,_,_,_,_,_,_,_,_,_,_,_,_,_,_,_,_,_,_,_,_,_,_,_,_,_,_,_,_,_,_,_,_,_,_,_]) rfl ?_
       refine c_ifb rfl (fun h70 => ?_) (fun h70 => ?_)
       ·skip
        have hcF : cellF bs = (⟨s1.1, s2.1, s3.1, p1.1, p2.1, p3.1, f.1, m1.1, m2.1, m3.1, o.1⟩, o.2) := by
         subst hdo hdl hdm3 hdm2 hdm1 hdf hdp3 hdp2 hdp1 hqs3 hqs2 hqs1
         rfl
        refine c_rseq (n := 86) ⟨rfl, rfl⟩ ?_
        refine s_val (r_buildS (zs := ceC ce0) (out := ceC ce0) Try.runUnderlying40 Try.zeroValue40 places40 pn rfl) ?_
        refine s_st (m_storen H 3 11 Try.sizeOf40 rfl rfl (by first | exact (kC_length _) | exact (hC_length _) | exact (ceC_length _) | exact (ptC_length _ _ _ _) | exact (plV_length _ _ _)) (by first | exact (kC_one _) | exact (hC_one _) | exact (ceC_one _) | exact (ptC_one _ _ _ _) | exact (plV_one _ _ _)) rfl (by show 0 + 11 ≤ 11; omega) (ceC_sp _ _)) (L' := (_ :: _ :: _ :: _ :: _)) rfl ?_
        intro w H
        refine s_val (r_assign rfl) ?_
        refine s_val (r_assign rfl) ?_
        refine c_nil (l' := [_,_,_,_,_,_,_,_,_,_,_,_,_,_,_,_,_,_,_,_,_,_,_,_,_,_,_,_,_,_,_,_,_,_,_,_,_,_,_,_,_,_,_,_,_,_,_,_,_,_,_,_,_,_,_,_,_,_,_,_,_,_,_,_,_,_,_,_,_,_,_,_,_,_,_,_,_,_,_,_,_,_,_,_,_,_]) rfl ?_
        refine wp_ret (x_blockRet (x_thenRet ?_))
        refine e_ret (rc_three rfl (rc_celln Try.isAgg40 Try.sizeOf40 rfl (H.at 3 rfl) (by first | exact (kC_td _) | exact (hC_td _) | exact (hC_seed _) | exact (ceC_td _) | exact (ceC_place _) | exact (ptC_td _ _ _ _) | exact (plV_td _ _ _)) (by first | exact (kC_length _) | exact (hC_length _) | exact (ceC_length _) | exact (ptC_length _ _ _ _) | exact (plV_length _ _ _))) (rc_tmp rfl) (rc_tmp rfl)) ⟨_, rfl, ?_⟩
        have hdn : decF bs = none := by
         unfold decF
         rw [if_neg hne, if_neg (show ¬ kOk (rd 1 (bs, false)).1 = false by rw [← hqs1, hok]; decide), if_pos (show (cellF bs).2.2 = true by rw [hcF]; exact h70)]
        exact .inr ⟨hdn, _, rfl, by decide, H.sub (List.nil_sublist _)⟩
       ·skip
        have hcF : cellF bs = (⟨s1.1, s2.1, s3.1, p1.1, p2.1, p3.1, f.1, m1.1, m2.1, m3.1, o.1⟩, o.2) := by
         subst hdo hdl hdm3 hdm2 hdm1 hdf hdp3 hdp2 hdp1 hqs3 hqs2 hqs1
         rfl
        refine c_rseq (n := 86) ⟨rfl, rfl⟩ ?_
        refine s_val (r_loadn Try.isAgg40 Try.sizeOf40 rfl (H.at 1 rfl) (by first | exact (kC_td _) | exact (hC_td _) | exact (hC_seed _) | exact (ceC_td _) | exact (ceC_place _) | exact (ptC_td _ _ _ _) | exact (plV_td _ _ _)) (by first | exact (kC_length _) | exact (hC_length _) | exact (ceC_length _) | exact (ptC_length _ _ _ _) | exact (plV_length _ _ _) | exact rfl)) ?_
        refine s_call (r_call Try.call24 (ec rfl en)) (right_c (⟨s1.1, s2.1, s3.1, p1.1, p2.1, p3.1, f.1, m1.1, m2.1, m3.1, bd⟩ : Ce) _ (hNb.browM H (fun p hp => (List.mem_cons_of_mem _ (List.mem_cons_of_mem _ (List.mem_cons_of_mem _ (List.mem_cons_of_mem _ hp))))))) ?_
        rintro v w (⟨hy78, rfl, HC⟩ | ⟨hy78, rfl, HC⟩)
        ·skip
         replace H := H.quiet HC
         refine s_val (r_not rfl) ?_
         refine s_val (r_assign rfl) ?_
         refine c_nil (l' := [_,_,_,_,_,_,_,_,_,_,_,_,_,_,_,_,_,_,_,_,_,_,_,_,_,_,_,_,_,_,_,_,_,_,_,_,_,_,_,_,_,_,_,_,_,_,_,_,_,_,_,_,_,_,_,_,_,_,_,_,_,_,_,_,_,_,_,_,_,_,_,_,_,_,_,_,_,_,_,_,_,_,_,_,_,_]) rfl ?_
         refine c_iff rfl ?_
         refine wp_skip ?_
         refine x_blockNormal ?_
         refine x_thenNormal ?_
         refine c_seq ?_
         refine d_begin (sz := 86) ⟨rfl, rfl⟩ (by kernel_rfl) H (H.sub (.cons_cons _ (.cons_cons _ (.cons_cons _ (List.nil_sublist _))))) rfl ?_
         intro w H
         refine d_take (i := 0) rfl (by kernel_rfl) (fun _ _ _ h => h) (H.sub (.cons_cons _ (.cons_cons _ (.cons_cons _ (List.nil_sublist _))))) (fun _ HS => r_loadn Try.isAgg40 Try.sizeOf40 rfl (HS.at 1 rfl) (by first | exact (kC_td _) | exact (hC_td _) | exact (hC_seed _) | exact (ceC_td _) | exact (ceC_place _) | exact (ptC_td _ _ _ _) | exact (plV_td _ _ _)) (by first | exact (kC_length _) | exact (hC_length _) | exact (ceC_length _) | exact (ptC_length _ _ _ _) | exact (plV_length _ _ _) | exact rfl)) rfl ?_
         refine d_take (i := 1) rfl (by kernel_rfl) (fun _ _ _ h => h) (H.sub (.cons_cons _ (.cons_cons _ (.cons_cons _ (List.nil_sublist _))))) (fun _ _ => r_move rfl) rfl ?_
         refine d_take (i := 2) rfl (by kernel_rfl) (fun _ _ _ h => h) (H.sub (.cons_cons _ (.cons_cons _ (.cons_cons _ (List.nil_sublist _))))) (fun _ _ => r_nilCheck rfl) rfl ?_
         refine d_take (i := 3) rfl (by kernel_rfl) (fun _ _ _ h => h) (H.sub (.cons_cons _ (.cons_cons _ (.cons_cons _ (List.nil_sublist _))))) (fun _ _ => r_fieldAddr (k := 0) Try.runUnderlying80 rfl Try.sizeOf25 (by decide) rfl rfl) rfl ?_
         refine d_take (i := 4) rfl (by kernel_rfl) (fun _ _ _ h => h) (H.sub (.cons_cons _ (.cons_cons _ (.cons_cons _ (List.nil_sublist _))))) (fun _ HS => r_load1 Try.isAgg25 rfl (HS.at 2 rfl) rfl) rfl ?_
         refine d_all1 (i := 5) (by kernel_rfl) ?_
         refine b_st rfl go_none (m_storen H 3 11 Try.sizeOf40 rfl rfl (by first | exact (kC_length _) | exact (hC_length _) | exact (ceC_length _) | exact (ptC_length _ _ _ _) | exact (plV_length _ _ _)) (by first | exact (kC_one _) | exact (hC_one _) | exact (ceC_one _) | exact (ptC_one _ _ _ _) | exact (plV_one _ _ _)) rfl (by show 0 + 11 ≤ 11; omega) (ceC_sp _ _)) (L' := (_ :: _ :: _ :: _ :: _)) rfl rfl (fun _ H => (H.sub (.cons_cons _ (.cons_cons _ (.cons_cons _ (List.nil_sublist _)))))) ?_
         intro w H
         refine d_take (i := 6) rfl (by kernel_rfl) (fun _ _ _ h => h) (H.sub (.cons_cons _ (.cons_cons _ (.cons_cons _ (List.nil_sublist _))))) (fun _ _ => r_assign rfl) rfl ?_
         refine d_take (i := 7) rfl (by kernel_rfl) (fun _ _ _ h => h) (H.sub (.cons_cons _ (.cons_cons _ (.cons_cons _ (List.nil_sublist _))))) (fun _ _ => r_assign rfl) rfl ?_
         refine d_done (l' := [_,_,_,_,_,_,_,_,_,_,_,_,_,_,_,_,_,_,_,_,_,_,_,_,_,_,_,_,_,_,_,_,_,_,_,_,_,_,_,_,_,_,_,_,_,_,_,_,_,_,_,_,_,_,_,_,_,_,_,_,_,_,_,_,_,_,_,_,_,_,_,_,_,_,_,_,_,_,_,_,_,_,_,_,_,_]) (by kernel_rfl) rfl ?_
         refine x_thenNormal ?_
         refine wp_ret ?_
         refine e_ret (rc_three rfl (rc_celln Try.isAgg40 Try.sizeOf40 rfl (H.at 3 rfl) (by first | exact (kC_td _) | exact (hC_td _) | exact (hC_seed _) | exact (ceC_td _) | exact (ceC_place _) | exact (ptC_td _ _ _ _) | exact (plV_td _ _ _)) (by first | exact (kC_length _) | exact (hC_length _) | exact (ceC_length _) | exact (ptC_length _ _ _ _) | exact (plV_length _ _ _))) (rc_tmp rfl) (rc_tmp rfl)) ⟨_, rfl, ?_⟩
         have hcp : (cellF bs).1 = ceP (⟨s1.1, s2.1, s3.1, p1.1, p2.1, p3.1, f.1, m1.1, m2.1, m3.1, bd⟩ : Ce) := by rw [hcF]; show _ = (⟨_,_,_,_,_,_,_,_,_,_, bd.b⟩ : Cp); rw [hbd]
         have hdn : decF bs = some (ceP (⟨s1.1, s2.1, s3.1, p1.1, p2.1, p3.1, f.1, m1.1, m2.1, m3.1, bd⟩ : Ce), o.2.1) := by
          unfold decF
          rw [if_neg hne, if_neg (show ¬ kOk (rd 1 (bs, false)).1 = false by rw [← hqs1, hok]; decide), if_neg (show ¬ (cellF bs).2.2 = true by rw [hcF]; show ¬ o.2.2 = true; rw [h70]; decide), if_pos (by rw [hcp]; exact hy78), hcp, hcF]
         exact .inl ⟨_, o.2.1, a7, c7, Nb, hdn, rfl, fun W hW => by have h := K7 W hW; exact ⟨h.1, h.2.1, h.2.2⟩, hNb, H.sub (.cons _ (.cons _ (.cons _ (.cons _ (List.Sublist.refl _)))))⟩
        ·skip
         replace H := H.quiet HC
         refine s_val (r_not rfl) ?_
         refine s_val (r_assign rfl) ?_
         refine c_nil (l' := [_,_,_,_,_,_,_,_,_,_,_,_,_,_,_,_,_,_,_,_,_,_,_,_,_,_,_,_,_,_,_,_,_,_,_,_,_,_,_,_,_,_,_,_,_,_,_,_,_,_,_,_,_,_,_,_,_,_,_,_,_,_,_,_,_,_,_,_,_,_,_,_,_,_,_,_,_,_,_,_,_,_,_,_,_,_]) rfl ?_
         refine c_ift rfl ?_
         refine c_rseq (n := 86) ⟨rfl, rfl⟩ ?_
         refine s_val (r_buildS (zs := ceC ce0) (out := ceC ce0) Try.runUnderlying40 Try.zeroValue40 places40 pn rfl) ?_
         refine s_st (m_storen H 3 11 Try.sizeOf40 rfl rfl (by first | exact (kC_length _) | exact (hC_length _) | exact (ceC_length _) | exact (ptC_length _ _ _ _) | exact (plV_length _ _ _)) (by first | exact (kC_one _) | exact (hC_one _) | exact (ceC_one _) | exact (ptC_one _ _ _ _) | exact (plV_one _ _ _)) rfl (by show 0 + 11 ≤ 11; omega) (ceC_sp _ _)) (L' := (_ :: _ :: _ :: _ :: _)) rfl ?_
         intro w H
         refine s_val (r_assign rfl) ?_
         refine s_val (r_assign rfl) ?_
         refine c_nil (l' := [_,_,_,_,_,_,_,_,_,_,_,_,_,_,_,_,_,_,_,_,_,_,_,_,_,_,_,_,_,_,_,_,_,_,_,_,_,_,_,_,_,_,_,_,_,_,_,_,_,_,_,_,_,_,_,_,_,_,_,_,_,_,_,_,_,_,_,_,_,_,_,_,_,_,_,_,_,_,_,_,_,_,_,_,_,_]) rfl ?_
         refine wp_ret (x_blockRet (x_thenRet ?_))
         refine e_ret (rc_three rfl (rc_celln Try.isAgg40 Try.sizeOf40 rfl (H.at 3 rfl) (by first | exact (kC_td _) | exact (hC_td _) | exact (hC_seed _) | exact (ceC_td _) | exact (ceC_place _) | exact (ptC_td _ _ _ _) | exact (plV_td _ _ _)) (by first | exact (kC_length _) | exact (hC_length _) | exact (ceC_length _) | exact (ptC_length _ _ _ _) | exact (plV_length _ _ _))) (rc_tmp rfl) (rc_tmp rfl)) ⟨_, rfl, ?_⟩
         have hcp : (cellF bs).1 = ceP (⟨s1.1, s2.1, s3.1, p1.1, p2.1, p3.1, f.1, m1.1, m2.1, m3.1, bd⟩ : Ce) := by rw [hcF]; show _ = (⟨_,_,_,_,_,_,_,_,_,_, bd.b⟩ : Cp); rw [hbd]
         have hdn : decF bs = none := by
          unfold decF
          rw [if_neg hne, if_neg (show ¬ kOk (rd 1 (bs, false)).1 = false by rw [← hqs1, hok]; decide), if_neg (show ¬ (cellF bs).2.2 = true by rw [hcF]; show ¬ o.2.2 = true; rw [h70]; decide), if_neg (by rw [hcp]; exact hy78)]
         exact .inr ⟨hdn, _, rfl, by decide, H.sub (List.nil_sublist _)⟩
  ·skip
   replace H := H.quiet HC
   refine s_val (r_move rfl) ?_
   refine s_val (r_extract rfl rfl) ?_
   refine s_val (r_extract rfl rfl) ?_
   refine s_new (m_alloc (cs := (ptC false false false false)) H Try.zeroValue75 rfl) ?_
   intro w b7 H
   refine s_st (m_storen H 0 4 Try.sizeOf75 rfl rfl (by first | exact (kC_length _) | exact (hC_length _) | exact (ceC_length _) | exact (ptC_length _ _ _ _) | exact (plV_length _ _ _)) (by first | exact (kC_one _) | exact (hC_one _) | exact (ceC_one _) | exact (ptC_one _ _ _ _) | exact (plV_one _ _ _)) rfl (by show 0 + 4 ≤ 4; omega) (rfl : _ = ptC (kPl s1.1) (kRf s1.1) (kMi s1.1) (kBo s1.1))) (L' := (_ :: _ :: _ :: _ :: _)) rfl ?_
   intro w H
   refine s_val (r_assign rfl) ?_
   refine c_nil (l' := [_,_,_,_,_,_,_,_,_,_,_,_,_,_,_,_,_,_,_,_,_,_,_,_,_,_,_,_,_,_,_,_,_,_,_,_,_,_,_,_,_,_,_,_,_,_,_,_,_,_,_,_,_,_,_,_,_,_,_,_,_,_,_,_,_,_,_,_,_,_,_,_,_,_,_,_,_,_,_,_,_,_,_,_,_,_]) rfl ?_
   refine c_seq ?_
   refine c_rseq (n := 86) ⟨rfl, rfl⟩ ?_
   refine s_val (r_move rfl) ?_
   refine s_val (r_not rfl) ?_
   refine c_nil (l' := [_,_,_,_,_,_,_,_,_,_,_,_,_,_,_,_,_,_,_,_,_,_,_,_,_,_,_,_,_,_,_,_,_,_,_,_,_,_,_,_,_,_,_,_,_,_,_,_,_,_,_,_,_,_,_,_,_,_,_,_,_,_,_,_,_,_,_,_,_,_,_,_,_,_,_,_,_,_,_,_,_,_,_,_,_,_]) rfl ?_
   refine c_ift rfl ?_
   refine c_rseq (n := 86) ⟨rfl, rfl⟩ ?_
   refine s_val (r_buildS (zs := ceC ce0) (out := ceC ce0) Try.runUnderlying40 Try.zeroValue40 places40 pn rfl) ?_
   refine s_st (m_storen H 3 11 Try.sizeOf40 rfl rfl (by first | exact (kC_length _) | exact (hC_length _) | exact (ceC_length _) | exact (ptC_length _ _ _ _) | exact (plV_length _ _ _)) (by first | exact (kC_one _) | exact (hC_one _) | exact (ceC_one _) | exact (ptC_one _ _ _ _) | exact (plV_one _ _ _)) rfl (by show 0 + 11 ≤ 11; omega) (ceC_sp _ _)) (L' := (_ :: _ :: _ :: _ :: _)) rfl ?_
   intro w H
   refine s_val (r_assign rfl) ?_
   refine s_val (r_assign rfl) ?_
   refine c_nil (l' := [_,_,_,_,_,_,_,_,_,_,_,_,_,_,_,_,_,_,_,_,_,_,_,_,_,_,_,_,_,_,_,_,_,_,_,_,_,_,_,_,_,_,_,_,_,_,_,_,_,_,_,_,_,_,_,_,_,_,_,_,_,_,_,_,_,_,_,_,_,_,_,_,_,_,_,_,_,_,_,_,_,_,_,_,_,_]) rfl ?_
   refine wp_ret (x_thenRet ?_)
   refine e_ret (rc_three rfl (rc_celln Try.isAgg40 Try.sizeOf40 rfl (H.at 3 rfl) (by first | exact (kC_td _) | exact (hC_td _) | exact (hC_seed _) | exact (ceC_td _) | exact (ceC_place _) | exact (ptC_td _ _ _ _) | exact (plV_td _ _ _)) (by first | exact (kC_length _) | exact (hC_length _) | exact (ceC_length _) | exact (ptC_length _ _ _ _) | exact (plV_length _ _ _))) (rc_tmp rfl) (rc_tmp rfl)) ⟨_, rfl, ?_⟩
   have hdn : decF bs = none := by
    unfold decF
    rw [if_neg hne, if_pos (show kOk (rd 1 (bs, false)).1 = false by rw [← hqs1]; exact hok)]
   exact .inr ⟨hdn, _, rfl, by decide, H.sub (List.nil_sublist _)⟩

end Go.Proofs.Ytihpeihlpgompaa

