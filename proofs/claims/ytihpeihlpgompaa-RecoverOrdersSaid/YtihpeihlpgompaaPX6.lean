import Derived.Test.YtihpeihlpgompaaPX5
import Derived.Test.YtihpeihlpgompaaPY5
import Derived.Test.YtihpeihlpgompaaPVx1
namespace Go.Proofs.Ytihpeihlpgompaa
open Go Go.Er
set_option linter.unusedSimpArgs false in
theorem places42 : Places Try.prog #[⟨ "At", 3, 0, false, "", "", 0⟩, ⟨ "Cell", 40, 1, false, "", "", 8⟩] [(0, 1), (1, 11)] := fun w => by simp [Try.sizeOf3 w, Try.sizeOf40 w]
theorem bytes42 : Try.t42.bytes = 112 := rfl

theorem sort_rowr (a : Option Addr) (c : Nat) (ys : List FrL) (N : List (Nat × Obj)) (hn : ys.length < 256) (hu : Unl fr0 frK ys) (hz : ys.length = 0 → a = none ∧ c = 0) (hR : RowN 12 42 (rowC frC ys) ys.length a c N) (w0 : World) (hown : Go.Er.Own w0 N) :
  Calls Try.prog 14 #[.slice a ys.length c, .func (.func 15) #[] #[]] w0 fun e w => ∃ v, e = .returned v ∧ ∃ zs N', v = .tuple #[] ∧ zs.Perm ys ∧ Srt fr0 frK 0 zs.length zs ∧ RowN 12 42 (rowC frC zs) zs.length a c N' ∧ St w0 (N.map (·.1)) w N' := by
 by_cases h0 : ys.length = 0
 ·obtain ⟨rfl, rfl⟩ := hz h0
  have e : ys = [] := List.length_eq_zero_iff.1 h0
  subst e
  have hN : N = [] := by
   obtain ⟨_,_, ⟨_,_,_, h⟩ | ⟨b, sp, h, _⟩⟩ := hR
   ·exact h
   ·cases h
  subst hN
  exact (sort_nilr w0).mono fun e w ⟨v, he, hv, H⟩ => ⟨v, he, [], [], hv, List.Perm.refl _, (fun p q _ _ h => absurd h (Nat.not_lt_zero _)), RowN.nil, H⟩
 ·obtain ⟨b, sp, rfl, hc, rfl, hc2⟩ := RowN.some hR (by omega)
  refine (sort_specr b ys.length c ys sp rfl hn hu w0 hown).mono ?_
  rintro e w ⟨v, he, hv, zs, hp, hs, H⟩
  have hl : zs.length = ys.length := hp.length_eq
  refine ⟨v, he, zs, _, hv, hp, hs, ?_, H⟩
  rw [hl]
  have hr : (rowC frC zs).length = (rowC frC ys).length := by rw [rowC_length elFr, rowC_length elFr, hl]
  exact RowN.mk (by rw [rowC_length elFr, hl]) hc2 (by rw [List.length_append] at hc ⊢; rw [hr]; exact hc)
theorem popen_un (a : Option Addr) (bs : List UInt8) (c : Nat) (hc : bs.length ≤ c) (hl : bs.length ≤ 1000000) (w0 : World) (hr : BRow w0 a bs) :
  Calls Try.prog 13 #[.slice a bs.length c] w0 fun e w => ∃ v, e = .returned v ∧ ∃ (cs : List Ce) (a2 : Option Addr) (c2 : Nat) (Nr Nb : List (Nat × Obj)) (ok : Bool), v = .tuple #[.slice a2 cs.length c2, .bool ok] ∧ (openF bs).getD [] = cs.map ceP ∧ cs.length ≤ 14 ∧ RowN 11 40 (rowC ceC cs) cs.length a2 c2 Nr ∧ CsN 5 cs Nb ∧ St w0 [] w (Nr ++ Nb) :=
 (popen_spec a bs c hc hl w0 hr).mono fun e w ⟨v, he, h⟩ => ⟨v, he, by
  rcases h with ⟨ys, a2, c2, Nr, Nb, ho, h14, hv, hR, hC, H⟩ | ⟨ho, hv, H⟩
  ·exact ⟨ys, a2, c2, Nr, Nb, true, hv, by rw [ho]; rfl, h14, hR, hC, H⟩
  ·exact ⟨[], none, 0, [], [], false, hv, by rw [ho]; rfl, Nat.zero_le _, RowN.nil, CsN.nil, H⟩⟩

set_option maxHeartbeats 4000000 in
theorem order_spec (a : Option Addr) (c : Nat) (ys : List Fa) (hb : ∀ y ∈ ys, y.bd.b.length ≤ y.bd.c ∧ y.bd.b.length ≤ 1000000) (hl : ys.length ≤ 1000000) (hE : (ents ys).length < 256) (w0 : World) (hr : RRow faC w0 a ys) (hbr : ∀ y ∈ ys, BRow w0 y.bd.a y.bd.b) :
  Calls Try.prog 7 #[.slice a ys.length c] w0 fun e w => ∃ v, e = .returned v ∧ (∃ (zs : List FrL) (a2 : Option Addr) (c2 : Nat) (Nr Nb : List (Nat × Obj)), v = .slice a2 zs.length c2 ∧ OrdI zs (ents ys) ∧ RowN 12 42 (rowC frC zs) zs.length a2 c2 Nr ∧ CsN 5 (zs.map FrL.c) Nb ∧ St w0 [] w (Nr ++ Nb)) := by
 have H := St.refl w0
 refine c_enter (args := [.slice a ys.length c]) (l := [.slice a ys.length c, undef, undef, undef, undef, undef, undef, undef, undef, undef, undef, undef, undef, undef, undef, undef, undef, undef, undef, undef, undef, undef, undef, undef, undef, undef, undef, undef, undef, undef, undef, undef, undef, undef, undef, undef, undef, undef, undef, undef, undef, undef, undef, undef, undef, undef, undef, undef, undef, undef, undef, undef, undef, undef]) Try.func7 Try.ntmps7 rfl rfl ?_
 refine c_rseq (n := 54) ⟨rfl, rfl⟩ ?_
 refine s_val (r_assign rfl) ?_
 refine c_nil (l' := [_,_,_,_,_,_,_,_,_,_,_,_,_,_,_,_,_,_,_,_,_,_,_,_,_,_,_,_,_,_,_,_,_,_,_,_,_,_,_,_,_,_,_,_,_,_,_,_,_,_,_,_,_,_]) rfl ?_
 refine c_rseq (n := 54) ⟨rfl, rfl⟩ ?_
 refine s_new (m_makeMapV H) ?_
 intro w b13 H
 refine s_val (r_assign rfl) ?_
 refine c_nil (l' := [_,_,_,_,_,_,_,_,_,_,_,_,_,_,_,_,_,_,_,_,_,_,_,_,_,_,_,_,_,_,_,_,_,_,_,_,_,_,_,_,_,_,_,_,_,_,_,_,_,_,_,_,_,_]) rfl ?_
 refine c_seq ?_
 refine c_rseq (n := 54) ⟨rfl, rfl⟩ ?_
 refine s_val (r_move rfl) ?_
 refine s_val (r_lens Try.runUnderlying22 (ec rfl en)) ?_
 refine s_val (r_move rfl) ?_
 refine c_nil (l' := [_,_,_,_,_,_,_,_,_,_,_,_,_,_,_,_,_,_,_,_,_,_,_,_,_,_,_,_,_,_,_,_,_,_,_,_,_,_,_,_,_,_,_,_,_,_,_,_,_,_,_,_,_,_]) rfl ?_
 refine wp_block ?_
 refine c_loop (fun (l0 : List Value) (i : Nat) (l : List Value) (w : World) => ∃ (u5 u6 u7 u9 u17 u18 u19 u20 u21 u22 u23 u24 u25 u26 u27 u28 u29 u30 u31 u32 u33 u34 u35 u36 u37 u38 u39 u40 : Value) (xs : List FrL) (Nb : List (Nat × Obj)), l = ovr l0 [N_, N_, N_, N_, N_, Y_ u5, Y_ u6, Y_ u7, N_, Y_ u9, N_, N_, N_, N_, N_, N_, Y_ (.int .i64 i), Y_ u17, Y_ u18, Y_ u19, Y_ u20, Y_ u21, Y_ u22, Y_ u23, Y_ u24, Y_ u25, Y_ u26, Y_ u27, Y_ u28, Y_ u29, Y_ u30, Y_ u31, Y_ u32, Y_ u33, Y_ u34, Y_ u35, Y_ u36, Y_ u37, Y_ u38, Y_ u39, Y_ u40] ∧ i ≤ ys.length ∧ MapI xs (ents (ys.take i)) ∧ xs.length ≤ (ents (ys.take i)).length ∧ CsN 5 (xs.map FrL.c) Nb ∧ St w0 [] w ((b13, vmO (vfr xs)) :: Nb)) (fun (i : Nat) => ys.length - i) 0 ⟨_,_,_,_,_,_,_,_,_,_,_,_,_,_,_,_,_,_,_,_,_,_,_,_,_,_,_,_, [], [], rfl, Nat.zero_le _, MapI.nil, Nat.zero_le _, CsN.nil, H⟩ ?_
 intro i l w ⟨u5, u6, u7, u9, u17, u18, u19, u20, u21, u22, u23, u24, u25, u26, u27, u28, u29, u30, u31, u32, u33, u34, u35, u36, u37, u38, u39, u40, xs, Nb, hl, hi, hM, hX, hC, H⟩
 obtain rfl := hl.trans (rfl : _ = [_,_,_,_,_,_,_,_,_,_,_,_,_,_,_,_,_,_,_,_,_,_,_,_,_,_,_,_,_,_,_,_,_,_,_,_,_,_,_,_,_,_,_,_,_,_,_,_,_,_,_,_,_,_])
 clear hl
 refine c_rseq (n := 54) ⟨rfl, rfl⟩ ?_
 refine s_val (r_lss rfl rfl) ?_
 refine c_nil (l' := [_,_,_,_,_,_,_,_,_,_,_,_,_,_,_,_,_,_,_,_,_,_,_,_,_,_,_,_,_,_,_,_,_,_,_,_,_,_,_,_,_,_,_,_,_,_,_,_,_,_,_,_,_,_]) rfl ?_
 refine c_seq ?_
 refine c_if rfl (fun h17 => ?_) (fun h17 => ?_)
 ·skip
  obtain ⟨y, hy⟩ : ∃ y, y = ys.getD i faZ := ⟨_, rfl⟩
  have hx : ys[i]? = some y := by rw [hy, List.getD_eq_getElem?_getD, List.getElem?_eq_getElem (by omega)]; rfl
  have hym : y ∈ ys := List.mem_of_getElem? hx
  have hen := ents_take (l := ys) (i := i) (by omega)
  rw [← hy] at hen
  obtain ⟨b0, off, pre, post, T0, fz0, rfl, hb0, hp0⟩ := hr (by omega)
  refine wp_skip ?_
  refine x_thenNormal ?_
  refine c_seq ?_
  refine wp_block ?_
  refine c_rseq (n := 54) ⟨rfl, rfl⟩ ?_
  refine s_val (r_indexAddrS Try.runUnderlying22 Try.sizeOf27 rfl rfl (by omega) (by omega)) ?_
  refine s_val (r_loadn Try.isAgg27 Try.sizeOf27 rfl (H.rd0 hb0) (row_td elFa pre post hp0 hx (by omega)) (fdV_length _ _ _)) ?_
  refine s_new (m_alloc (cs := (fdV 0 0 bdZ)) H Try.zeroValue27 rfl) ?_
  intro w b5 H
  refine s_st (m_storen H 0 3 Try.sizeOf27 rfl rfl (by first | exact (kC_length _) | exact (hC_length _) | exact (ceC_length _) | exact (ptC_length _ _ _ _) | exact (plV_length _ _ _) | exact (elFr.len _) | exact (frC_length _) | exact (fdV_length _ _ _)) (by first | exact (kC_one _) | exact (hC_one _) | exact (ceC_one _) | exact (ptC_one _ _ _ _) | exact (plV_one _ _ _) | exact (elFr.one _) | exact (frC_one _) | exact (fdV_one _ _ _)) rfl (by show 0 + 3 ≤ 3; omega) (fdV_sp _ _ _ _ _ _)) (L' := (_ :: _ :: _)) rfl ?_
  intro w H
  refine c_nil (l' := [_,_,_,_,_,_,_,_,_,_,_,_,_,_,_,_,_,_,_,_,_,_,_,_,_,_,_,_,_,_,_,_,_,_,_,_,_,_,_,_,_,_,_,_,_,_,_,_,_,_,_,_,_,_]) rfl ?_
  refine c_rseq (n := 54) ⟨rfl, rfl⟩ ?_
  refine s_val (r_fieldAddr (k := 2) Try.runUnderlying27 rfl Try.sizeOf25 (by decide) rfl rfl) ?_
  refine s_val (r_load1 Try.isAgg25 rfl (H.at 0 rfl) rfl) ?_
  refine s_call (r_call Try.call13 (ec rfl en)) (popen_un y.bd.a y.bd.b y.bd.c (hb y hym).1 (hb y hym).2 _ ((hbr y hym).st (H.sub (List.nil_sublist _)))) ?_
  rintro v w ⟨cs, a2, c2, Nr, Nb2, ok, rfl, ho, h14, hNr, hCs, HC⟩
  replace H := St.mid4 (A := [_,_]) (H.call0 HC)
  rw [List.append_assoc Nr Nb2 Nb] at H
  refine s_val (r_move rfl) ?_
  refine s_val (r_extract rfl rfl) ?_
  refine s_val (r_extract rfl rfl) ?_
  refine s_val (r_assign rfl) ?_
  refine s_val (r_assign rfl) ?_
  refine c_nil (l' := [_,_,_,_,_,_,_,_,_,_,_,_,_,_,_,_,_,_,_,_,_,_,_,_,_,_,_,_,_,_,_,_,_,_,_,_,_,_,_,_,_,_,_,_,_,_,_,_,_,_,_,_,_,_]) rfl ?_
  refine c_rseq (n := 54) ⟨rfl, rfl⟩ ?_
  refine s_val (r_move rfl) ?_
  refine s_val (r_lens Try.runUnderlying53 (ec rfl en)) ?_
  refine s_val (r_move rfl) ?_
  refine c_nil (l' := [_,_,_,_,_,_,_,_,_,_,_,_,_,_,_,_,_,_,_,_,_,_,_,_,_,_,_,_,_,_,_,_,_,_,_,_,_,_,_,_,_,_,_,_,_,_,_,_,_,_,_,_,_,_]) rfl ?_
  refine wp_block ?_
  refine c_loop (fun (l0 : List Value) (k : Nat) (l : List Value) (w : World) => ∃ (u9 u29 u30 u31 u32 u33 u34 u35 u36 u37 u38 u39 : Value) (xs1 : List FrL), l = ovr l0 [N_, N_, N_, N_, N_, N_, N_, N_, N_, Y_ u9, N_, N_, N_, N_, N_, N_, N_, N_, N_, N_, N_, N_, N_, N_, N_, N_, N_, N_, Y_ (.int .i64 k), Y_ u29, Y_ u30, Y_ u31, Y_ u32, Y_ u33, Y_ u34, Y_ u35, Y_ u36, Y_ u37, Y_ u38, Y_ u39] ∧ k ≤ cs.length ∧ MapI xs1 (ents (ys.take i) ++ (cs.take k).map (fun z => (y.at_, ceP z))) ∧ xs1.length ≤ (ents (ys.take i)).length + k ∧ CsN 5 (xs1.map FrL.c) (Nb2 ++ Nb) ∧ St w0 [] w ((b13, vmO (vfr xs1)) :: (b5, .cells (faC y).toArray 27 (0, 0)) :: Nr ++ (Nb2 ++ Nb))) (fun (k : Nat) => cs.length - k) 0 ⟨_,_,_,_,_,_,_,_,_,_,_,_, xs, rfl, Nat.zero_le _, (by rw [List.take_zero, List.map_nil, List.append_nil]; exact hM), (Nat.le_trans hX (Nat.le_add_right _ _)), (hC.mono fun p hp => List.mem_append_right _ hp), (H.swp 0 rfl)⟩ ?_
  intro k l w ⟨u9, u29, u30, u31, u32, u33, u34, u35, u36, u37, u38, u39, xs1, hl, hk, hM1, hX1, hC1, H⟩
  obtain rfl := hl.trans (rfl : _ = [_,_,_,_,_,_,_,_,_,_,_,_,_,_,_,_,_,_,_,_,_,_,_,_,_,_,_,_,_,_,_,_,_,_,_,_,_,_,_,_,_,_,_,_,_,_,_,_,_,_,_,_,_,_])
  clear hl
  refine c_rseq (n := 54) ⟨rfl, rfl⟩ ?_
  refine s_val (r_lss rfl rfl) ?_
  refine c_nil (l' := [_,_,_,_,_,_,_,_,_,_,_,_,_,_,_,_,_,_,_,_,_,_,_,_,_,_,_,_,_,_,_,_,_,_,_,_,_,_,_,_,_,_,_,_,_,_,_,_,_,_,_,_,_,_]) rfl ?_
  refine c_seq ?_
  refine c_if rfl (fun h29 => ?_) (fun h29 => ?_)
  ·skip
   obtain ⟨z, hz⟩ : ∃ z, z = cs.getD k ce0 := ⟨_, rfl⟩
   have hx2 : cs[k]? = some z := by rw [hz, List.getD_eq_getElem?_getD, List.getElem?_eq_getElem (by omega)]; rfl
   have hzm : z ∈ cs := List.mem_of_getElem? hx2
   obtain ⟨b2, off2, pre2, post2, T2, fz2, rfl, hb2, hp2⟩ := (hNr.rrowM (fun h => h) H (fun p hp => List.mem_cons_of_mem _ (List.mem_cons_of_mem _ (List.mem_append_left _ hp)))) (by omega)
   refine wp_skip ?_
   refine x_thenNormal ?_
   refine c_seq ?_
   refine wp_block ?_
   refine c_rseq (n := 54) ⟨rfl, rfl⟩ ?_
   refine s_val (r_indexAddrS Try.runUnderlying53 Try.sizeOf40 rfl rfl (by omega) (by omega)) ?_
   refine s_val (r_loadn Try.isAgg40 Try.sizeOf40 rfl hb2 (row_td elCe pre2 post2 hp2 hx2 (by omega)) (ceC_length _)) ?_
   refine s_new (m_alloc (cs := (ceC ce0)) H Try.zeroValue40 rfl) ?_
   intro w b9 H
   refine s_st (m_storen H 0 11 Try.sizeOf40 rfl rfl (by first | exact (kC_length _) | exact (hC_length _) | exact (ceC_length _) | exact (ptC_length _ _ _ _) | exact (plV_length _ _ _) | exact (elFr.len _) | exact (frC_length _) | exact (fdV_length _ _ _)) (by first | exact (kC_one _) | exact (hC_one _) | exact (ceC_one _) | exact (ptC_one _ _ _ _) | exact (plV_one _ _ _) | exact (elFr.one _) | exact (frC_one _) | exact (fdV_one _ _ _)) rfl (by show 0 + 11 ≤ 11; omega) (ceC_sp _ _)) (L' := (_ :: _ :: _ :: _)) rfl ?_
   intro w H
   refine c_nil (l' := [_,_,_,_,_,_,_,_,_,_,_,_,_,_,_,_,_,_,_,_,_,_,_,_,_,_,_,_,_,_,_,_,_,_,_,_,_,_,_,_,_,_,_,_,_,_,_,_,_,_,_,_,_,_]) rfl ?_
   refine c_region (n := 54) ⟨rfl, rfl⟩ ?_
   refine s_val (r_move rfl) ?_
   refine s_val (r_fieldAddr (k := 1) Try.runUnderlying40 rfl Try.sizeOf24 (by decide) rfl rfl) ?_
   refine s_val (r_load1 Try.isAgg24 rfl (H.at 0 rfl) rfl) ?_
   refine s_val (r_fieldAddr (k := 0) Try.runUnderlying27 rfl Try.sizeOf3 (by decide) rfl rfl) ?_
   refine s_val (r_load1 Try.isAgg3 rfl (H.at 2 rfl) rfl) ?_
   refine s_val (r_loadn Try.isAgg40 Try.sizeOf40 rfl (H.at 0 rfl) (ceC_td _) (by first | exact (kC_length _) | exact (hC_length _) | exact (ceC_length _) | exact (ptC_length _ _ _ _) | exact (plV_length _ _ _) | exact (elFr.len _) | exact (frC_length _) | exact (fdV_length _ _ _) | exact rfl)) ?_
   refine s_val (r_buildS Try.runUnderlying42 Try.zeroValue42 places42 (pc rfl (pc rfl pn)) (rfl : fillL _ _ _ = some (frC ⟨y.at_, z⟩))) ?_
   refine s_st (m_mapUpdateV H 1 Try.runUnderlying36 Try.runUnderlying24 rfl rfl rfl rfl) (L' := (_ :: _ :: _ :: _)) rfl ?_
   intro w H
   replace H := St.put3 (y := ⟨y.at_, z⟩) (xs := xs1) H
   refine c_nil0 (l' := [_,_,_,_,_,_,_,_,_,_,_,_,_,_,_,_,_,_,_,_,_,_,_,_,_,_,_,_,_,_,_,_,_,_,_,_,_,_,_,_,_,_,_,_,_,_,_,_,_,_,_,_,_,_]) rfl ?_
   refine x_blockNormal ?_
   refine x_thenNormal ?_
   refine c_region (n := 54) ⟨rfl, rfl⟩ ?_
   refine s_val (r_add rfl rfl (w_i64 (by omega) (by omega))) ?_
   refine s_val (r_move rfl) ?_
   refine c_nil0 (l' := [_,_,_,_,_,_,_,_,_,_,_,_,_,_,_,_,_,_,_,_,_,_,_,_,_,_,_,_,_,_,_,_,_,_,_,_,_,_,_,_,_,_,_,_,_,_,_,_,_,_,_,_,_,_]) rfl ?_
   replace H := H.sub (.cons _ (.cons_cons _ (.cons_cons _ (List.Sublist.refl _))))
   exact ⟨k + 1, _, rfl, ⟨_,_,_,_,_,_,_,_,_,_,_,_, (putX xs1 ⟨y.at_, z⟩), rfl, by omega, (by
     rw [List.take_add_one, hx2, List.map_append, ← List.append_assoc]
     exact hM1.put ⟨y.at_, z⟩), (Nat.le_trans (putX_length _ _) (by omega)), (CsN.put hM1.1 hC1 (hCs.mono fun p hp => List.mem_append_left _ hp) hzm), H⟩, by omega⟩
  ·skip
   obtain rfl : k = cs.length := by omega
   have hen2 : ents (ys.take (i + 1)) = ents (ys.take i) ++ (cs.take cs.length).map (fun z => (y.at_, ceP z)) := by
    rw [hen, List.take_length]
    unfold entB
    rw [ho, List.map_map]
    rfl
   rw [← hen2] at hM1
   have hX2 : xs1.length ≤ (ents (ys.take (i + 1))).length := by rw [hen2, List.length_append, List.length_map, List.take_length]; exact hX1
   refine wp_exit (x_thenExit (x_thenExit (x_blockHit ?_)))
   refine x_blockNormal ?_
   refine x_thenNormal ?_
   refine c_region (n := 54) ⟨rfl, rfl⟩ ?_
   refine s_val (r_add rfl rfl (w_i64 (by omega) (by omega))) ?_
   refine s_val (r_move rfl) ?_
   refine c_nil0 (l' := [_,_,_,_,_,_,_,_,_,_,_,_,_,_,_,_,_,_,_,_,_,_,_,_,_,_,_,_,_,_,_,_,_,_,_,_,_,_,_,_,_,_,_,_,_,_,_,_,_,_,_,_,_,_]) rfl ?_
   exact ⟨i + 1, _, rfl, ⟨_,_,_,_,_,_,_,_,_,_,_,_,_,_,_,_,_,_,_,_,_,_,_,_,_,_,_,_, xs1, (Nb2 ++ Nb), rfl, by omega, hM1, hX2, hC1, (H.sub (.cons_cons _ (.cons _ (List.sublist_append_right _ _))))⟩, by omega⟩
 ·skip
  obtain rfl : i = ys.length := by omega
  rw [List.take_length] at hM hX
  refine wp_exit (x_thenExit (x_thenExit (x_blockHit ?_)))
  refine x_thenNormal ?_
  refine c_rseq (n := 54) ⟨rfl, rfl⟩ ?_
  refine s_val (r_assign rfl) ?_
  refine c_nil (l' := [_,_,_,_,_,_,_,_,_,_,_,_,_,_,_,_,_,_,_,_,_,_,_,_,_,_,_,_,_,_,_,_,_,_,_,_,_,_,_,_,_,_,_,_,_,_,_,_,_,_,_,_,_,_]) rfl ?_
  refine c_seq ?_
  refine c_rseq (n := 54) ⟨rfl, rfl⟩ ?_
  refine s_val (r_move rfl) ?_
  refine s_new (m_rangeV H Try.runUnderlying36 rfl (H.at 0 rfl)) ?_
  intro w b42 H
  refine c_nil (l' := [_,_,_,_,_,_,_,_,_,_,_,_,_,_,_,_,_,_,_,_,_,_,_,_,_,_,_,_,_,_,_,_,_,_,_,_,_,_,_,_,_,_,_,_,_,_,_,_,_,_,_,_,_,_]) rfl ?_
  refine wp_block ?_
  refine c_loop (fun (l0 : List Value) (sn : List Nat) (l : List Value) (w : World) => ∃ (u12 u43 u44 u45 u46 u47 u48 u49 u50 : Value) (os : List FrL) (a3 : Option Addr) (c3 : Nat) (N3 : List (Nat × Obj)), l = ovr l0 [N_, N_, N_, N_, N_, N_, N_, N_, N_, N_, Y_ (.slice a3 os.length c3), N_, Y_ u12, N_, N_, N_, N_, N_, N_, N_, N_, N_, N_, N_, N_, N_, N_, N_, N_, N_, N_, N_, N_, N_, N_, N_, N_, N_, N_, N_, N_, N_, N_, Y_ u43, Y_ u44, Y_ u45, Y_ u46, Y_ u47, Y_ u48, Y_ u49, Y_ u50] ∧ OutI xs sn os ∧ RowN 12 42 (rowC frC os) os.length a3 c3 N3 ∧ (os.length = 0 → a3 = none ∧ c3 = 0) ∧ St w0 [] w ((b42, vitO b13 (vfr xs) sn) :: (b13, vmO (vfr xs)) :: N3 ++ Nb)) (fun (sn : List Nat) => leftN xs.length sn) [] ⟨_,_,_,_,_,_,_,_,_, [], none, 0, [], rfl, OutI.nil, RowN.nil, (fun _ => ⟨rfl, rfl⟩), H⟩ ?_
  intro sn l w ⟨u12, u43, u44, u45, u46, u47, u48, u49, u50, os, a3, c3, N3, hl, hO, hR, hz0, H⟩
  obtain rfl := hl.trans (rfl : _ = [_,_,_,_,_,_,_,_,_,_,_,_,_,_,_,_,_,_,_,_,_,_,_,_,_,_,_,_,_,_,_,_,_,_,_,_,_,_,_,_,_,_,_,_,_,_,_,_,_,_,_,_,_,_])
  clear hl
  refine c_rseq (n := 54) ⟨rfl, rfl⟩ ?_
  refine s_any (m_nextV H 0 rfl rfl (H.at 1 rfl)) ?_
  rintro v w ⟨more, rest, seen2, rfl, hmore, hdone, H⟩
  skip
  refine s_val (r_extract rfl rfl) ?_
  refine c_nil (l' := [_,_,_,_,_,_,_,_,_,_,_,_,_,_,_,_,_,_,_,_,_,_,_,_,_,_,_,_,_,_,_,_,_,_,_,_,_,_,_,_,_,_,_,_,_,_,_,_,_,_,_,_,_,_]) rfl ?_
  refine c_seq ?_
  refine c_ifb rfl (fun h44 => ?_) (fun h44 => ?_)
  ·skip
   obtain ⟨ii, p, hin, hns, rfl⟩ := hmore h44
   obtain ⟨f, hf, rfl⟩ := vfr_get hin
   have hlo := hO.len
   refine wp_skip ?_
   refine x_thenNormal ?_
   refine wp_block ?_
   refine c_rseq (n := 54) ⟨rfl, rfl⟩ ?_
   refine s_val (r_entryV rfl (H.at 0 rfl) (H.at 1 rfl) hin) ?_
   refine s_val (r_extract rfl rfl) ?_
   refine s_new (m_alloc (cs := (frC fr0)) H Try.zeroValue42 rfl) ?_
   intro w b12 H
   refine s_st (m_storen H 0 12 Try.sizeOf42 rfl rfl (by first | exact (kC_length _) | exact (hC_length _) | exact (ceC_length _) | exact (ptC_length _ _ _ _) | exact (plV_length _ _ _) | exact (elFr.len _) | exact (frC_length _) | exact (fdV_length _ _ _)) (by first | exact (kC_one _) | exact (hC_one _) | exact (ceC_one _) | exact (ptC_one _ _ _ _) | exact (plV_one _ _ _) | exact (elFr.one _) | exact (frC_one _) | exact (fdV_one _ _ _)) rfl (by show 0 + 12 ≤ 12; omega) (frC_sp _ _)) (L' := (_ :: _ :: _ :: _)) rfl ?_
   intro w H
   refine c_nil (l' := [_,_,_,_,_,_,_,_,_,_,_,_,_,_,_,_,_,_,_,_,_,_,_,_,_,_,_,_,_,_,_,_,_,_,_,_,_,_,_,_,_,_,_,_,_,_,_,_,_,_,_,_,_,_]) rfl ?_
   refine c_region (n := 54) ⟨rfl, rfl⟩ ?_
   refine s_val (r_move rfl) ?_
   refine s_val (r_loadn Try.isAgg42 Try.sizeOf42 rfl (H.at 0 rfl) (by first | exact (kC_td _) | exact (hC_td _) | exact (hC_seed _) | exact (ceC_td _) | exact (ceC_place _) | exact (ptC_td _ _ _ _) | exact (plV_td _ _ _) | exact (frC_td _) | exact (frC_cell _) | exact (fdV_td _ _ _)) (by first | exact (kC_length _) | exact (hC_length _) | exact (ceC_length _) | exact (ptC_length _ _ _ _) | exact (plV_length _ _ _) | exact (elFr.len _) | exact (frC_length _) | exact (fdV_length _ _ _) | exact rfl)) ?_
   refine s_new (m_bslice1 (vs := frC f) H Try.runUnderlying29 Try.sizeOf42 Try.zeroValue42 (by omega) (by omega) rfl rfl rfl) ?_
   intro w b49 H
   replace H := St.rot3 (A := [_,_,_,_]) H
   refine s_any (m_append_row0 (L1 := [_,_,_,_] ++ Nb) (N := N3) H hR Try.runUnderlying29 Try.runUnderlying29 (fun _ h => nomatch h) Try.sizeOf42 Try.zeroValue42 rfl Try.typeInfo42 (by rw [bytes42]; omega) (by rw [bytes42]; omega) (ec rfl (ec rfl en)) (Src.slice (vs := frC f) (H.at 0 rfl) rfl rfl (frC_one _))) ?_
   rintro v w ⟨a5, c5, N4, rfl, hN4, H⟩
   replace H := St.unrot3 (A := [_,_,_,_]) (R := Nb) H
   obtain ⟨os2, hy2⟩ : ∃ os2, os2 = os ++ [f] := ⟨_, rfl⟩
   have hll : os2.length = os.length + 1 := by rw [hy2, List.length_append]; rfl
   rw [← hll] at hN4 ⊢
   have hN5 : RowN 12 42 (rowC frC os2) os2.length a5 c5 N4 := by rw [hy2, rowC_append, rowC_one1, ← hy2]; exact hN4
   have hO2 : OutI xs (sn ++ [ii]) os2 := by rw [hy2]; exact hO.step hf hns
   refine s_val (r_assign rfl) ?_
   refine c_nil0 (l' := [_,_,_,_,_,_,_,_,_,_,_,_,_,_,_,_,_,_,_,_,_,_,_,_,_,_,_,_,_,_,_,_,_,_,_,_,_,_,_,_,_,_,_,_,_,_,_,_,_,_,_,_,_,_]) rfl ?_
   refine x_blockNormal ?_
   replace H := H.sub (.cons _ (.cons _ (.cons_cons _ (.cons_cons _ (List.Sublist.refl _)))))
   exact ⟨_,_, rfl, ⟨_,_,_,_,_,_,_,_,_, os2, a5, c5, N4, rfl, hO2, hN5, (fun h => absurd h (by omega)), H⟩, (leftN_lt (List.getElem?_eq_some_iff.1 hf).1 hns)⟩
  ·skip
   have hdn := hdone h44
   rw [vfr_length] at hdn
   refine wp_exit (x_thenExit (x_thenExit (x_blockHit ?_)))
   refine x_thenNormal ?_
   refine c_rseq (n := 54) ⟨rfl, rfl⟩ ?_
   refine s_val (r_move rfl) ?_
   replace H := St.rot3 (A := [_,_]) H
   have hall : ∀ y, y ∈ os ↔ y ∈ xs := fun y => hO.all hdn
   have hko := hO.kx hM.1
   have hlo := hO.len
   refine s_call (r_call Try.call14 (ec rfl (ec rfl en))) (sort_rowr a3 c3 os N3 (by omega) (kx_unl hko) hz0 hR _ (H.ownsM (List.sublist_append_right _ _))) ?_
   rintro v w ⟨zs, Nz, rfl, hperm, hsrt, hRz, HC⟩
   replace H := St.callr H HC
   refine c_nil (l' := [_,_,_,_,_,_,_,_,_,_,_,_,_,_,_,_,_,_,_,_,_,_,_,_,_,_,_,_,_,_,_,_,_,_,_,_,_,_,_,_,_,_,_,_,_,_,_,_,_,_,_,_,_,_]) rfl ?_
   refine c_rseq (n := 54) ⟨rfl, rfl⟩ ?_
   refine s_val (r_move rfl) ?_
   refine s_val (r_assign rfl) ?_
   refine c_nil (l' := [_,_,_,_,_,_,_,_,_,_,_,_,_,_,_,_,_,_,_,_,_,_,_,_,_,_,_,_,_,_,_,_,_,_,_,_,_,_,_,_,_,_,_,_,_,_,_,_,_,_,_,_,_,_]) rfl ?_
   refine wp_ret ?_
   refine e_ret (res1 rfl rfl) ⟨_, rfl, ?_⟩
   refine ⟨zs, a3, c3, Nz, Nb, ?_, ordI_of hM hall hko hperm hsrt, hRz, CsN.of hC (fun z hz => (hall z).1 (hperm.mem_iff.1 hz)), (H.perm (List.perm_append_comm)).sub ((List.Sublist.refl _).append (List.sublist_append_right _ _))⟩
   rw [hperm.length_eq]

end Go.Proofs.Ytihpeihlpgompaa

