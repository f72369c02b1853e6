import Derived.Test.YtihpeihlpgompaaPX8
namespace Go.Proofs.Ytihpeihlpgompaa
open Go Go.Er
theorem bytes25 : Try.t25.bytes = 24 := rfl
theorem bytes3 : Try.t3.bytes = 8 := rfl

set_option maxHeartbeats 4000000 in
theorem fill_spec (al : Option Addr) (cl : Nat) (cs : List Ce) (h0 : 0 < cs.length) (hl : cs.length ≤ 1000) (hrt : ∀ y ∈ cs, rightC (ceP y) ∧ 0 ≤ y.ref) (hlen : (bodyN cs).length ≤ 103) (w0 : World) (hr : RRow ceC w0 al cs) (hbr : ∀ y ∈ cs, BRow w0 y.body.a y.body.b) :
  Calls Try.prog 12 #[.slice al cs.length cl] w0 fun e w => ∃ v, e = .returned v ∧ (∃ (bd : Bd) (bo c : Nat) (sp : List Value) (i2 : Option Addr) (c2 : Nat) (NB : List (Nat × Obj)), v = .tuple #[.slice (some ⟨bo, 0, none⟩) 1 c, .slice i2 cs.length c2, .int .i64 0] ∧ bd.b = bodyN cs ∧ RowN 1 5 (bC bd.b) bd.b.length bd.a bd.c NB ∧ St w0 [] w ((bo, .cells (bd1 bd ++ sp).toArray 25 (0, 0)) :: NB)) := by
 have H := St.refl w0
 refine c_enter (args := [.slice al cs.length cl]) (l := [.slice al cs.length cl, undef, undef, undef, undef, undef, undef, undef, undef, undef, undef, undef, undef, undef, undef, undef, undef, undef, undef, undef, undef, undef, undef, undef, undef, undef, undef, undef, undef, undef, undef, undef, undef, undef, undef, undef, undef, undef, undef, undef, undef, undef, undef, undef, undef, undef, undef, undef, undef, undef, undef, undef, undef, undef, undef, undef, undef, undef, undef, undef, undef, undef]) Try.func12 Try.ntmps12 rfl rfl ?_
 refine c_rseq (n := 62) ⟨rfl, rfl⟩ ?_
 refine s_val (r_assign rfl) ?_
 refine s_val (r_assign rfl) ?_
 refine s_val (r_assign rfl) ?_
 refine c_nil (l' := [_,_,_,_,_,_,_,_,_,_,_,_,_,_,_,_,_,_,_,_,_,_,_,_,_,_,_,_,_,_,_,_,_,_,_,_,_,_,_,_,_,_,_,_,_,_,_,_,_,_,_,_,_,_,_,_,_,_,_,_,_,_]) rfl ?_
 refine c_seq ?_
 refine c_rseq (n := 62) ⟨rfl, rfl⟩ ?_
 refine s_val (r_move rfl) ?_
 refine s_val (r_lens Try.runUnderlying53 (ec rfl en)) ?_
 refine s_val (r_move rfl) ?_
 refine c_nil (l' := [_,_,_,_,_,_,_,_,_,_,_,_,_,_,_,_,_,_,_,_,_,_,_,_,_,_,_,_,_,_,_,_,_,_,_,_,_,_,_,_,_,_,_,_,_,_,_,_,_,_,_,_,_,_,_,_,_,_,_,_,_,_]) rfl ?_
 refine wp_block ?_
 refine c_loop (fun (l0 : List Value) (k : Nat) (l : List Value) (w : World) => ∃ (u6 u7 u8 u9 u10 u14 u15 u16 u17 u18 u19 u20 u21 u22 u23 u24 u25 u26 u27 u28 u29 u30 u31 u32 u33 u34 u35 u36 u37 u38 u39 u40 u41 u42 u43 u44 u45 u46 u47 u48 u49 u50 u51 u52 u53 u54 u55 u56 u57 u58 u59 : Value) (nb : Nat) (ab : Option Addr) (cb : Nat) (bd : Bd) (Nr NB : List (Nat × Obj)) (ai : Option Addr) (ci : Nat) (ic : List Value) (Ni : List (Nat × Obj)), l = ovr l0 [N_, N_, Y_ (.slice ab nb cb), Y_ (.slice ai k ci), Y_ (.int .i64 0), N_, Y_ u6, Y_ u7, Y_ u8, Y_ u9, Y_ u10, N_, N_, Y_ (.int .i64 k), Y_ u14, Y_ u15, Y_ u16, Y_ u17, Y_ u18, Y_ u19, Y_ u20, Y_ u21, Y_ u22, Y_ u23, Y_ u24, Y_ u25, Y_ u26, Y_ u27, Y_ u28, Y_ u29, Y_ u30, Y_ u31, Y_ u32, Y_ u33, Y_ u34, Y_ u35, Y_ u36, Y_ u37, Y_ u38, Y_ u39, Y_ u40, Y_ u41, Y_ u42, Y_ u43, Y_ u44, Y_ u45, Y_ u46, Y_ u47, Y_ u48, Y_ u49, Y_ u50, Y_ u51, Y_ u52, Y_ u53, Y_ u54, Y_ u55, Y_ u56, Y_ u57, Y_ u58, Y_ u59] ∧ k ≤ cs.length ∧ FillI 25 5 k nb ab cb bd Nr NB ∧ bd.b = bodyN (cs.take k) ∧ RowN 1 3 ic k ai ci Ni ∧ St w0 [] w (Nr ++ (NB ++ Ni))) (fun (k : Nat) => cs.length - k) 0 ⟨_,_,_,_,_,_,_,_,_,_,_,_,_,_,_,_,_,_,_,_,_,_,_,_,_,_,_,_,_,_,_,_,_,_,_,_,_,_,_,_,_,_,_,_,_,_,_,_,_,_,_, 0, none, 0, bdZ, [], [], none, 0, [], [], rfl, Nat.zero_le _, ⟨RowN.nil, .inl ⟨rfl, rfl, rfl, rfl, rfl, rfl, rfl⟩⟩, (by rw [List.take_zero]; rfl), RowN.nil, H⟩ ?_
 intro k l w ⟨u6, u7, u8, u9, u10, u14, u15, u16, u17, u18, u19, u20, u21, u22, u23, u24, u25, u26, u27, u28, u29, u30, u31, u32, u33, u34, u35, u36, u37, u38, u39, u40, u41, u42, u43, u44, u45, u46, u47, u48, u49, u50, u51, u52, u53, u54, u55, u56, u57, u58, u59, nb, ab, cb, bd, Nr, NB, ai, ci, ic, Ni, hl, hk, hF, hbd, hI, H⟩
 obtain rfl := hl.trans (rfl : _ = [_,_,_,_,_,_,_,_,_,_,_,_,_,_,_,_,_,_,_,_,_,_,_,_,_,_,_,_,_,_,_,_,_,_,_,_,_,_,_,_,_,_,_,_,_,_,_,_,_,_,_,_,_,_,_,_,_,_,_,_,_,_])
 clear hl
 refine c_rseq (n := 62) ⟨rfl, rfl⟩ ?_
 refine s_val (r_lss rfl rfl) ?_
 refine c_nil (l' := [_,_,_,_,_,_,_,_,_,_,_,_,_,_,_,_,_,_,_,_,_,_,_,_,_,_,_,_,_,_,_,_,_,_,_,_,_,_,_,_,_,_,_,_,_,_,_,_,_,_,_,_,_,_,_,_,_,_,_,_,_,_]) rfl ?_
 refine c_seq ?_
 refine c_if rfl (fun h14 => ?_) (fun h14 => ?_)
 ·skip
  obtain ⟨y, hy⟩ : ∃ y, y = cs.getD k ce0 := ⟨_, rfl⟩
  have hx : cs[k]? = some y := by rw [hy, List.getD_eq_getElem?_getD, List.getElem?_eq_getElem (by omega)]; rfl
  have hym : y ∈ cs := List.mem_of_getElem? hx
  obtain ⟨b0, off, pre, post, T0, fz0, rfl, hb0, hp0⟩ := hr (by omega)
  refine wp_skip ?_
  refine x_thenNormal ?_
  refine c_seq ?_
  refine wp_block ?_
  refine c_rseq (n := 62) ⟨rfl, rfl⟩ ?_
  refine s_val (r_indexAddrS Try.runUnderlying53 Try.sizeOf40 rfl rfl (by omega) (by omega)) ?_
  refine s_val (r_loadn Try.isAgg40 Try.sizeOf40 rfl (H.rd0 hb0) (row_td elCe pre post hp0 hx (by omega)) (ceC_length _)) ?_
  refine s_new (m_alloc (cs := (ceC ce0)) H Try.zeroValue40 rfl) ?_
  intro w b6 H
  refine s_st (m_storen H 0 11 Try.sizeOf40 rfl rfl (by first | exact (kC_length _) | exact (hC_length _) | exact (ceC_length _) | exact (ptC_length _ _ _ _) | exact (plV_length _ _ _) | exact (elFr.len _) | exact (frC_length _) | exact (fdV_length _ _ _)) (by first | exact (kC_one _) | exact (hC_one _) | exact (ceC_one _) | exact (ptC_one _ _ _ _) | exact (plV_one _ _ _) | exact (elFr.one _) | exact (frC_one _) | exact (fdV_one _ _ _)) rfl (by show 0 + 11 ≤ 11; omega) (ceC_sp _ _)) (L' := (_ :: _)) rfl ?_
  intro w H
  refine c_nil (l' := [_,_,_,_,_,_,_,_,_,_,_,_,_,_,_,_,_,_,_,_,_,_,_,_,_,_,_,_,_,_,_,_,_,_,_,_,_,_,_,_,_,_,_,_,_,_,_,_,_,_,_,_,_,_,_,_,_,_,_,_,_,_]) rfl ?_
  refine c_rseq (n := 62) ⟨rfl, rfl⟩ ?_
  refine s_val (r_loadn Try.isAgg40 Try.sizeOf40 rfl (H.at 0 rfl) (ceC_td _) (by first | exact (kC_length _) | exact (hC_length _) | exact (ceC_length _) | exact (ptC_length _ _ _ _) | exact (plV_length _ _ _) | exact (elFr.len _) | exact (frC_length _) | exact (fdV_length _ _ _) | exact rfl)) ?_
  refine s_call (r_call Try.call18 (ec rfl en)) (encode_spec y (hrt y hym).2 _ ((hbr y hym).st (H.sub (List.nil_sublist _)))) ?_
  rintro v w (⟨hrt2, u, Nu, rfl, hu, hRu, HC⟩ | ⟨hno, rfl, HC⟩)
  ·skip
   replace H := St.mid4 (A := [_]) (H.call0 HC)
   have hle := bodyN_le cs (k + 1)
   rw [bodyN_take hx, List.length_append, ← hbd, ← hu] at hle
   refine s_val (r_move rfl) ?_
   refine s_val (r_extract rfl rfl) ?_
   refine s_val (r_extract rfl rfl) ?_
   refine s_val (r_assign rfl) ?_
   refine s_val (r_assign rfl) ?_
   refine c_nil (l' := [_,_,_,_,_,_,_,_,_,_,_,_,_,_,_,_,_,_,_,_,_,_,_,_,_,_,_,_,_,_,_,_,_,_,_,_,_,_,_,_,_,_,_,_,_,_,_,_,_,_,_,_,_,_,_,_,_,_,_,_,_,_]) rfl ?_
   refine c_seq ?_
   refine c_rseq (n := 62) ⟨rfl, rfl⟩ ?_
   refine s_val (r_move rfl) ?_
   refine s_val (r_neq rfl rfl) ?_
   refine c_nil (l' := [_,_,_,_,_,_,_,_,_,_,_,_,_,_,_,_,_,_,_,_,_,_,_,_,_,_,_,_,_,_,_,_,_,_,_,_,_,_,_,_,_,_,_,_,_,_,_,_,_,_,_,_,_,_,_,_,_,_,_,_,_,_]) rfl ?_
   refine c_if rfl (fun h23 => ?_) (fun h23 => ?_)
   ·skip
    exfalso; omega
   ·skip
    refine wp_skip ?_
    refine x_thenNormal ?_
    refine c_seq ?_
    refine c_rseq (n := 62) ⟨rfl, rfl⟩ ?_
    refine s_val (r_move rfl) ?_
    refine s_val (r_lens Try.runUnderlying47 (ec rfl en)) ?_
    refine s_val (r_assign rfl) ?_
    refine c_nil (l' := [_,_,_,_,_,_,_,_,_,_,_,_,_,_,_,_,_,_,_,_,_,_,_,_,_,_,_,_,_,_,_,_,_,_,_,_,_,_,_,_,_,_,_,_,_,_,_,_,_,_,_,_,_,_,_,_,_,_,_,_,_,_]) rfl ?_
    refine c_rseq (n := 62) ⟨rfl, rfl⟩ ?_
    refine s_val (r_move rfl) ?_
    refine s_test (r_eql rfl rfl) (fun h27 => ?_) (fun h27 => ?_)
    ·skip
     have hz : k = 0 ∧ nb = 0 ∧ ab = none ∧ cb = 0 ∧ bd = bdZ ∧ Nr = [] ∧ NB = [] := by
      rcases hF.2 with h | ⟨_, h, _⟩
      ·exact h
      ·omega
     obtain ⟨rfl, rfl, rfl, rfl, rfl, rfl, rfl⟩ := hz
     refine s_val (r_move rfl) ?_
     refine g_no rfl rfl (by decide) ?_
     refine g_no rfl rfl (by decide) ?_
     refine g_no rfl rfl (by decide) ?_
     refine g_no rfl rfl (by decide) ?_
     refine g_no rfl rfl (by decide) ?_
     refine g_no rfl rfl (by decide) ?_
     refine g_no rfl rfl (by decide) ?_
     refine g_no rfl rfl (by decide) ?_
     refine g_no rfl rfl (by decide) ?_
     refine g_no rfl rfl (by decide) ?_
     refine s_val (r_pickt rfl rfl) ?_
     refine c_nil (l' := [_,_,_,_,_,_,_,_,_,_,_,_,_,_,_,_,_,_,_,_,_,_,_,_,_,_,_,_,_,_,_,_,_,_,_,_,_,_,_,_,_,_,_,_,_,_,_,_,_,_,_,_,_,_,_,_,_,_,_,_,_,_]) rfl ?_
     refine c_ift rfl ?_
     refine c_region (n := 62) ⟨rfl, rfl⟩ ?_
     refine s_val (r_move rfl) ?_
     refine s_new (m_bslice1 (vs := bd1 bdZ) H Try.runUnderlying47 Try.sizeOf25 Try.zeroValue25 (by omega) (by omega) rfl rfl rfl) ?_
     intro w b41 H
     replace H := St.nil1 H
     refine s_any (m_append_row0 (L1 := _) (N := []) H RowN.nil Try.runUnderlying47 Try.runUnderlying47 (fun _ h => nomatch h) Try.sizeOf25 Try.zeroValue25 rfl Try.typeInfo25 (by rw [bytes25]; omega) (by rw [bytes25]; omega) (ec rfl (ec rfl en)) (Src.slice (vs := bd1 bdZ) (H.at 0 rfl) rfl rfl (elB1.one _))) ?_
     rintro v w ⟨ao, co, No, rfl, hNo, H⟩
     obtain ⟨bo, sp, rfl, hc1, rfl, hc2⟩ := RowN.some hNo (by omega)
     replace H := H.perm (List.perm_append_comm (l₁ := [_]))
     refine s_val (r_assign rfl) ?_
     refine c_nil (l' := [_,_,_,_,_,_,_,_,_,_,_,_,_,_,_,_,_,_,_,_,_,_,_,_,_,_,_,_,_,_,_,_,_,_,_,_,_,_,_,_,_,_,_,_,_,_,_,_,_,_,_,_,_,_,_,_,_,_,_,_,_,_]) rfl ?_
     refine c_rseq (n := 62) ⟨rfl, rfl⟩ ?_
     refine s_val (r_move rfl) ?_
     refine s_val (r_lens Try.runUnderlying47 (ec rfl en)) ?_
     refine s_val (r_sub rfl rfl (w_i64 (by omega) (by omega))) ?_
     refine s_val (r_assign rfl) ?_
     refine c_nil (l' := [_,_,_,_,_,_,_,_,_,_,_,_,_,_,_,_,_,_,_,_,_,_,_,_,_,_,_,_,_,_,_,_,_,_,_,_,_,_,_,_,_,_,_,_,_,_,_,_,_,_,_,_,_,_,_,_,_,_,_,_,_,_]) rfl ?_
     refine c_rseq (n := 62) ⟨rfl, rfl⟩ ?_
     refine s_val (r_move rfl) ?_
     refine s_val (r_move rfl) ?_
     refine s_val (r_move rfl) ?_
     refine s_val (r_move rfl) ?_
     refine s_val (r_indexAddrS Try.runUnderlying47 Try.sizeOf25 rfl rfl (by omega) (by omega)) ?_
     refine s_val (r_load1 Try.isAgg25 rfl (H.at 0 rfl) (bd1_at (by omega))) ?_
     refine s_val (r_move rfl) ?_
     replace H := St.nil1 H
     refine s_any (m_append_row0 (L1 := _) (N := []) H RowN.nil Try.runUnderlying25 Try.runUnderlying25 (fun _ h => nomatch h) Try.sizeOf5 Try.zeroValue5 rfl Try.typeInfo5 (by rw [bytes5]; omega) (by rw [bytes5]; omega) (ec rfl (ec rfl en)) ((hRu.browM H (fun p hp => by simp only [List.mem_append, List.mem_cons, hp, true_or, or_true])).src _)) ?_
     rintro v w ⟨a5, c5, N5, rfl, hN5, H⟩
     replace H := St.fillB (A := [_,_]) (No := Ni) H
     refine s_val (r_indexAddrS Try.runUnderlying47 Try.sizeOf25 rfl rfl (by omega) (by omega)) ?_
     refine s_st (m_store1 H 0 Try.sizeOf25 rfl rfl rfl rfl (by rw [List.length_append]; show _ < 1 + sp.length; omega) (bd1_setA (b := bdZ.b ++ u.b) (by omega) (by rw [List.length_append]; rfl))) (L' := (_ :: _)) rfl ?_
     intro w H
     refine c_nil (l' := [_,_,_,_,_,_,_,_,_,_,_,_,_,_,_,_,_,_,_,_,_,_,_,_,_,_,_,_,_,_,_,_,_,_,_,_,_,_,_,_,_,_,_,_,_,_,_,_,_,_,_,_,_,_,_,_,_,_,_,_,_,_]) rfl ?_
     refine c_region (n := 62) ⟨rfl, rfl⟩ ?_
     refine s_val (r_move rfl) ?_
     refine s_val (r_move rfl) ?_
     refine s_new (m_bsliceF (m := 1) (pl := [(0, 1)]) H Try.runUnderlying48 Try.sizeOf3 Try.zeroValue3 rfl (by omega) (by omega) (pc rfl pn) (by intro p hp; simp at hp; rcases hp with rfl; rfl) rfl) ?_
     intro w b57 H
     refine s_any (m_append_row0 (L1 := [_,_] ++ N5) (N := Ni) H hI Try.runUnderlying48 Try.runUnderlying48 (fun _ h => nomatch h) Try.sizeOf3 Try.zeroValue3 rfl Try.typeInfo3 (by rw [bytes3]; omega) (by rw [bytes3]; omega) (ec rfl (ec rfl en)) (Src.slice (H.at 0 rfl) rfl rfl (by intro v hv; have e := List.mem_singleton.1 hv; rw [e]; rfl))) ?_
     rintro v w ⟨a6, c6, N6, rfl, hN6, H⟩
     skip
     refine s_val (r_assign rfl) ?_
     refine c_nil0 (l' := [_,_,_,_,_,_,_,_,_,_,_,_,_,_,_,_,_,_,_,_,_,_,_,_,_,_,_,_,_,_,_,_,_,_,_,_,_,_,_,_,_,_,_,_,_,_,_,_,_,_,_,_,_,_,_,_,_,_,_,_,_,_]) rfl ?_
     refine x_blockNormal ?_
     refine x_thenNormal ?_
     refine c_region (n := 62) ⟨rfl, rfl⟩ ?_
     refine s_val (r_add rfl rfl (w_i64 (by omega) (by omega))) ?_
     refine s_val (r_move rfl) ?_
     refine c_nil0 (l' := [_,_,_,_,_,_,_,_,_,_,_,_,_,_,_,_,_,_,_,_,_,_,_,_,_,_,_,_,_,_,_,_,_,_,_,_,_,_,_,_,_,_,_,_,_,_,_,_,_,_,_,_,_,_,_,_,_,_,_,_,_,_]) rfl ?_
     exact ⟨1, _, rfl, ⟨_,_,_,_,_,_,_,_,_,_,_,_,_,_,_,_,_,_,_,_,_,_,_,_,_,_,_,_,_,_,_,_,_,_,_,_,_,_,_,_,_,_,_,_,_,_,_,_,_,_,_, 1, _,_, ⟨a5, bdZ.b ++ u.b, c5⟩, [_], N5, a6, c6, _, N6, rfl, by omega, ⟨(by rw [bC_append, List.length_append]; exact hN5), .inr ⟨by omega, rfl, bo, sp, rfl, by omega, by rw [List.length_append, Nat.mul_one] at hc1; exact hc1, rfl⟩⟩, (by rw [bodyN_take hx, hu, hbd]), hN6, (H.sub (.cons _ (List.Sublist.refl _)))⟩, by omega⟩
    ·skip
     obtain ⟨hRB, hF⟩ := hF
     obtain ⟨_, hnb, bo, sp, rfl, hc1, hc2, rfl⟩ : 0 < k ∧ nb = 1 ∧ ∃ (bo : Nat) (sp : List Value), ab = some ⟨bo, 0, none⟩ ∧ 1 ≤ cb ∧ cb ≤ 1 + sp.length ∧ Nr = [(bo, .cells (bd1 bd ++ sp).toArray 25 (0, 0))] := by
      rcases hF with ⟨_, h, _⟩ | h
      ·omega
      ·exact h
     subst hnb
     replace H := St.front (A := [_]) (No := [_]) H
     refine s_val (r_move rfl) ?_
     refine g_yes rfl rfl ?_
     refine s_val (r_move rfl) ?_
     refine g_yes rfl rfl ?_
     refine s_val (r_move rfl) ?_
     refine g_yes rfl rfl ?_
     refine s_val (r_sub rfl rfl (w_i64 (by omega) (by omega))) ?_
     refine g_yes rfl rfl ?_
     refine s_val (r_indexAddrS Try.runUnderlying47 Try.sizeOf25 rfl rfl (by omega) (by omega)) ?_
     refine g_yes rfl rfl ?_
     refine s_val (r_load1 Try.isAgg25 rfl (H.own (bo, Obj.cells (bd1 bd ++ sp).toArray 25 (0, 0)) (List.mem_cons_self)) (bd1_at (by omega))) ?_
     refine g_yes rfl rfl ?_
     refine s_val (r_lens Try.runUnderlying25 (ec rfl en)) ?_
     refine g_yes rfl rfl ?_
     refine s_val (r_move rfl) ?_
     refine g_yes rfl rfl ?_
     refine s_val (r_lens Try.runUnderlying25 (ec rfl en)) ?_
     refine g_yes rfl rfl ?_
     refine s_val (r_add rfl rfl (w_i64 (by omega) (by omega))) ?_
     refine g_yes rfl rfl ?_
     refine s_val (r_gtr rfl rfl) ?_
     refine s_val (r_pickf rfl rfl) ?_
     refine c_nil (l' := [_,_,_,_,_,_,_,_,_,_,_,_,_,_,_,_,_,_,_,_,_,_,_,_,_,_,_,_,_,_,_,_,_,_,_,_,_,_,_,_,_,_,_,_,_,_,_,_,_,_,_,_,_,_,_,_,_,_,_,_,_,_]) rfl ?_
     refine c_if rfl (fun h39 => ?_) (fun h39 => ?_)
     ·skip
      exfalso; omega
     ·skip
      refine wp_skip ?_
      refine x_thenNormal ?_
      refine c_rseq (n := 62) ⟨rfl, rfl⟩ ?_
      refine s_val (r_move rfl) ?_
      refine s_val (r_lens Try.runUnderlying47 (ec rfl en)) ?_
      refine s_val (r_sub rfl rfl (w_i64 (by omega) (by omega))) ?_
      refine s_val (r_assign rfl) ?_
      refine c_nil (l' := [_,_,_,_,_,_,_,_,_,_,_,_,_,_,_,_,_,_,_,_,_,_,_,_,_,_,_,_,_,_,_,_,_,_,_,_,_,_,_,_,_,_,_,_,_,_,_,_,_,_,_,_,_,_,_,_,_,_,_,_,_,_]) rfl ?_
      refine c_rseq (n := 62) ⟨rfl, rfl⟩ ?_
      refine s_val (r_move rfl) ?_
      refine s_val (r_move rfl) ?_
      refine s_val (r_move rfl) ?_
      refine s_val (r_move rfl) ?_
      refine s_val (r_indexAddrS Try.runUnderlying47 Try.sizeOf25 rfl rfl (by omega) (by omega)) ?_
      refine s_val (r_load1 Try.isAgg25 rfl (H.at 0 rfl) (bd1_at (by omega))) ?_
      refine s_val (r_move rfl) ?_
      replace H := St.fillA (A := [_]) H
      refine s_any (m_append_row0 (L1 := _) (N := NB) H hRB Try.runUnderlying25 Try.runUnderlying25 (fun _ h => nomatch h) Try.sizeOf5 Try.zeroValue5 rfl Try.typeInfo5 (by rw [bytes5]; omega) (by rw [bytes5]; omega) (ec rfl (ec rfl en)) ((hRu.browM H (fun p hp => by simp only [List.mem_append, List.mem_cons, hp, true_or, or_true])).src _)) ?_
      rintro v w ⟨a5, c5, N5, rfl, hN5, H⟩
      replace H := St.fillB (A := [_]) (No := Ni) H
      refine s_val (r_indexAddrS Try.runUnderlying47 Try.sizeOf25 rfl rfl (by omega) (by omega)) ?_
      refine s_st (m_store1 H 0 Try.sizeOf25 rfl rfl rfl rfl (by rw [List.length_append]; show _ < 1 + sp.length; omega) (bd1_setA (b := bd.b ++ u.b) (by omega) (by rw [List.length_append]))) (L' := (_ :: _)) rfl ?_
      intro w H
      refine c_nil (l' := [_,_,_,_,_,_,_,_,_,_,_,_,_,_,_,_,_,_,_,_,_,_,_,_,_,_,_,_,_,_,_,_,_,_,_,_,_,_,_,_,_,_,_,_,_,_,_,_,_,_,_,_,_,_,_,_,_,_,_,_,_,_]) rfl ?_
      refine c_region (n := 62) ⟨rfl, rfl⟩ ?_
      refine s_val (r_move rfl) ?_
      refine s_val (r_move rfl) ?_
      refine s_new (m_bsliceF (m := 1) (pl := [(0, 1)]) H Try.runUnderlying48 Try.sizeOf3 Try.zeroValue3 rfl (by omega) (by omega) (pc rfl pn) (by intro p hp; simp at hp; rcases hp with rfl; rfl) rfl) ?_
      intro w b57 H
      refine s_any (m_append_row0 (L1 := [_,_] ++ N5) (N := Ni) H hI Try.runUnderlying48 Try.runUnderlying48 (fun _ h => nomatch h) Try.sizeOf3 Try.zeroValue3 rfl Try.typeInfo3 (by rw [bytes3]; omega) (by rw [bytes3]; omega) (ec rfl (ec rfl en)) (Src.slice (H.at 0 rfl) rfl rfl (by intro v hv; have e := List.mem_singleton.1 hv; rw [e]; rfl))) ?_
      rintro v w ⟨a6, c6, N6, rfl, hN6, H⟩
      skip
      refine s_val (r_assign rfl) ?_
      refine c_nil0 (l' := [_,_,_,_,_,_,_,_,_,_,_,_,_,_,_,_,_,_,_,_,_,_,_,_,_,_,_,_,_,_,_,_,_,_,_,_,_,_,_,_,_,_,_,_,_,_,_,_,_,_,_,_,_,_,_,_,_,_,_,_,_,_]) rfl ?_
      refine x_blockNormal ?_
      refine x_thenNormal ?_
      refine c_region (n := 62) ⟨rfl, rfl⟩ ?_
      refine s_val (r_add rfl rfl (w_i64 (by omega) (by omega))) ?_
      refine s_val (r_move rfl) ?_
      refine c_nil0 (l' := [_,_,_,_,_,_,_,_,_,_,_,_,_,_,_,_,_,_,_,_,_,_,_,_,_,_,_,_,_,_,_,_,_,_,_,_,_,_,_,_,_,_,_,_,_,_,_,_,_,_,_,_,_,_,_,_,_,_,_,_,_,_]) rfl ?_
      exact ⟨k + 1, _, rfl, ⟨_,_,_,_,_,_,_,_,_,_,_,_,_,_,_,_,_,_,_,_,_,_,_,_,_,_,_,_,_,_,_,_,_,_,_,_,_,_,_,_,_,_,_,_,_,_,_,_,_,_,_, 1, _,_, ⟨a5, bd.b ++ u.b, c5⟩, [_], N5, a6, c6, _, N6, rfl, by omega, ⟨(by rw [bC_append, List.length_append]; exact hN5), .inr ⟨by omega, rfl, bo, sp, rfl, hc1, hc2, rfl⟩⟩, (by rw [bodyN_take hx, hu, hbd]), hN6, (H.sub (.cons _ (List.Sublist.refl _)))⟩, by omega⟩
  ·skip
   exact absurd (hrt y hym).1 hno
 ·skip
  obtain rfl : k = cs.length := by omega
  rw [List.take_length] at hbd
  refine wp_exit (x_thenExit (x_thenExit (x_blockHit ?_)))
  refine x_thenNormal ?_
  refine c_rseq (n := 62) ⟨rfl, rfl⟩ ?_
  refine s_val (r_move rfl) ?_
  refine s_val (r_move rfl) ?_
  refine s_val (r_assign rfl) ?_
  refine s_val (r_assign rfl) ?_
  refine s_val (r_assign rfl) ?_
  refine c_nil (l' := [_,_,_,_,_,_,_,_,_,_,_,_,_,_,_,_,_,_,_,_,_,_,_,_,_,_,_,_,_,_,_,_,_,_,_,_,_,_,_,_,_,_,_,_,_,_,_,_,_,_,_,_,_,_,_,_,_,_,_,_,_,_]) rfl ?_
  refine wp_ret ?_
  refine e_ret (res3 rfl rfl rfl rfl) ⟨_, rfl, ?_⟩
  obtain ⟨hRB, hF2⟩ := hF
  rcases hF2 with ⟨hz, _⟩ | ⟨_, rfl, bo, sp, rfl, hc1, hc2, rfl⟩
  ·omega
  exact ⟨bd, bo, cb, sp, ai, ci, NB, rfl, hbd, hRB, H.sub (.cons_cons _ (List.sublist_append_left _ _))⟩

end Go.Proofs.Ytihpeihlpgompaa

