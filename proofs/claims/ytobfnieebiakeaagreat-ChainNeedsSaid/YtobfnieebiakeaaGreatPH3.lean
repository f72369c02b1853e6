import Derived.Test.YtobfnieebiakeaaGreatPM
import Derived.Test.YtobfnieebiakeaaGreatPF1
import Derived.Test.YtobfnieebiakeaaGreatPV5
import Derived.Test.YtobfnieebiakeaaGreatPVx2
import Derived.Test.YtobfnieebiakeaaGreatPB1
namespace Go.Proofs.YtobfnieebiakeaaGreat
open Go Go.Er

set_option maxHeartbeats 4000000 in
theorem needs23_spec (a : Option Addr) (c : Nat) (cl : List Ce) (n : Int) (hl : cl.length ≤ 1000000) (w0 : World) (hr : RRow ceC w0 a cl) (hb : ∀ y ∈ cl, BRow w0 y.body.a y.body.b) :
  Calls Tryz.prog 14 #[.slice a cl.length c, .int .u64 n] w0 fun e w => ∃ v, e = .returned v ∧ (∃ (a2 : Option Addr) (c2 : Nat) (N : List (Nat × Obj)), v = .slice a2 (needF (findP (cl.map ceP)) 4 n).length c2 ∧ RowN 1 28 (uC (needF (findP (cl.map ceP)) 4 n)) (needF (findP (cl.map ceP)) 4 n).length a2 c2 N ∧ St w0 [] w N) := by
 have H := St.refl w0
 refine c_enter (args := [.slice a cl.length c, .int .u64 n]) (l := t50 (t1 [])) Tryz.func14 Tryz.ntmps14 rfl rfl ?_
 refine zq 51 ⟨rfl, rfl⟩ ?_
 refine za ?_
 refine zc (t50 (t1 [])) ?_
 refine zq 51 ⟨rfl, rfl⟩ ?_
 refine s_new (m_bslice0 H qu25 qs28) ?_
 intro w b7 H
 refine za ?_
 refine zc (t50 (t1 [])) ?_
 refine c_seq ?_
 refine wp_block ?_
 have hR0 : RowN 1 28 (uC ([] : List Int)) ([] : List Int).length (some ⟨b7, 0, none⟩) 0 [(b7, Obj.cells (uC [] ++ []).toArray 28 (0, 0))] := RowN.mk (sp := []) rfl (Nat.le_refl _) (Nat.le_refl _)
 refine c_loop (fun (l0 : List Value) (k : Nat) (l : List Value) (w : World) => ∃ (u4 u6 u8 u9 u10 u11 u12 u13 u14 u15 u16 u17 u18 u19 u20 u21 u22 u23 u24 u25 u26 u27 u28 u29 u30 u31 u32 u33 u34 u35 u36 u37 u38 u39 u40 u41 u42 u43 u44 u45 u46 u47 u48 u49 : Value) (ns : List Int) (m : Int) (a3 : Option Addr) (c3 : Nat) (N : List (Nat × Obj)), l = ovr l0 [N_, Y_ (.int .u64 m), N_, N_, Y_ u4, Y_ (.slice a3 ns.length c3), Y_ u6, N_, Y_ u8, Y_ u9, Y_ u10, Y_ u11, Y_ u12, Y_ u13, Y_ u14, Y_ u15, Y_ u16, Y_ u17, Y_ u18, Y_ u19, Y_ u20, Y_ u21, Y_ u22, Y_ u23, Y_ u24, Y_ u25, Y_ u26, Y_ u27, Y_ u28, Y_ u29, Y_ u30, Y_ u31, Y_ u32, Y_ u33, Y_ u34, Y_ u35, Y_ u36, Y_ u37, Y_ u38, Y_ u39, Y_ u40, Y_ u41, Y_ u42, Y_ u43, Y_ u44, Y_ u45, Y_ u46, Y_ u47, Y_ u48, Y_ u49] ∧ k = ns.length ∧ ns.length ≤ 4 ∧ needF (findP (cl.map ceP)) 4 n = ns ++ needF (findP (cl.map ceP)) (4 - ns.length) m ∧ RowN 1 28 (uC ns) ns.length a3 c3 N ∧ St w0 [] w (N)) (fun (k : Nat) => 4 - k) 0 ⟨_, _, _, _, _, _, _, _, _, _, _, _, _, _, _, _, _, _, _, _, _, _, _, _, _, _, _, _, _, _, _, _, _, _, _, _, _, _, _, _, _, _, _, _, [], n, _, _, _, rfl, rfl, (by decide), rfl, hR0, H⟩ ?_
 intro k l w ⟨u4, u6, u8, u9, u10, u11, u12, u13, u14, u15, u16, u17, u18, u19, u20, u21, u22, u23, u24, u25, u26, u27, u28, u29, u30, u31, u32, u33, u34, u35, u36, u37, u38, u39, u40, u41, u42, u43, u44, u45, u46, u47, u48, u49, ns, m, a3, c3, N, hl, hk, h4, hI, hR, H⟩
 obtain rfl := hl.trans (rfl : _ = t50 (t1 []))
 clear hl
 refine c_seq ?_
 refine zq 51 ⟨rfl, rfl⟩ ?_
 refine zm ?_
 refine s_val (r_lens qu25 (ec rfl en)) ?_
 refine s_val (r_lss rfl rfl) ?_
 refine zc (t50 (t1 [])) ?_
 refine c_if rfl (fun h10 => ?_) (fun h10 => ?_)
 ·refine wp_skip ?_
  refine x_thenNormal ?_
  refine wp_block ?_
  refine zq 51 ⟨rfl, rfl⟩ ?_
  refine zm ?_
  refine zm ?_
  refine s_call (r_call Tryz.call38 (ec rfl (ec rfl en))) (find23_spec a c cl m hl _ (hr.st (H.sub (List.nil_sublist _)))) ?_
  rintro v w (⟨i, y, hx, hfd, rfl, HC⟩ | ⟨hfd, rfl, HC⟩)
  ·replace H := H.quiet HC
   have hil := (List.getElem?_eq_some_iff.1 hx).1
   have hym := List.mem_of_getElem? hx
   have hyb := hb y hym
   obtain ⟨b0, off, pre, post, T0, fz0, ha0, hb0, hp0⟩ := hr (by omega)
   subst ha0
   refine za ?_
   refine zc (t50 (t1 [])) ?_
   refine c_seq ?_
   refine zq 51 ⟨rfl, rfl⟩ ?_
   refine zm ?_
   refine s_test (r_lss rfl rfl) (fun h15 => ?_) (fun h15 => ?_)
   ·exfalso; omega
   ·refine zm ?_
    refine zy ?_
    refine zm ?_
    refine zy ?_
    refine zm ?_
    refine zy ?_
    refine s_val (ziS qu22 qs65) ?_
    refine zy ?_
    refine s_val (r_loadn qg65 qs65 rfl (H.rd0 hb0) (row_td elCe pre post hp0 hx (by omega)) (ceC_length _)) ?_
    refine zy ?_
    refine s_call (r_call Tryz.call39 (ec rfl en)) (right12_spec y _ (hyb.st (H.sub (List.nil_sublist _)))) ?_
    rintro v w (⟨hy21, rfl, HC⟩ | ⟨hy21, rfl, HC⟩)
    ·replace H := H.quiet HC
     refine zy ?_
     refine s_val (r_not rfl) ?_
     refine zf ?_
     refine zm ?_
     refine zy ?_
     refine zm ?_
     refine zy ?_
     refine zm ?_
     refine zy ?_
     refine s_val (ziS qu22 qs65) ?_
     refine zy ?_
     refine zR 0 qu65 qs3 ?_
     refine zy ?_
     refine s_val (r_load1 qg3 rfl (H.rd0 hb0) (ce_kind0 hp0 hx (by omega))) ?_
     refine zy ?_
     refine s_test (r_neq rfl rfl) (fun h30 => ?_) (fun h30 => ?_)
     ·refine zy ?_
      refine zm ?_
      refine zy ?_
      refine zm ?_
      refine zy ?_
      refine zm ?_
      refine zy ?_
      refine s_val (ziS qu22 qs65) ?_
      refine zy ?_
      refine zR 0 qu65 qs3 ?_
      refine zy ?_
      refine s_val (r_load1 qg3 rfl (H.rd0 hb0) (ce_kind0 hp0 hx (by omega))) ?_
      refine zy ?_
      refine s_test (r_neq rfl rfl) (fun h37 => ?_) (fun h37 => ?_)
      ·refine zy ?_
       refine zv ?_
       refine zf ?_
       refine zc (t50 (t1 [])) ?_
       refine c_ift rfl ?_
       refine zq 51 ⟨rfl, rfl⟩ ?_
       refine zm ?_
       refine za ?_
       refine zc (t50 (t1 [])) ?_
       refine wp_ret (x_thenRet (x_blockRet (x_thenRet (x_blockRet (x_thenRet ?_)))))
       refine zw (res1 rfl rfl) ?_
       have hz : needF (findP (cl.map ceP)) (4 - ns.length) m = [] := need_stop (fun c hc h => by rw [hfd] at hc; injection hc with hc; subst hc; exact h37 (mom_3 h.1 h.2.2 h30))
       rw [hz, List.append_nil] at hI
       rw [hI]
       exact ⟨a3, c3, N, rfl, hR, H⟩
      ·refine zy ?_
       refine zv ?_
       refine zf ?_
       refine zc (t50 (t1 [])) ?_
       refine c_iff rfl ?_
       refine wp_skip ?_
       refine x_thenNormal ?_
       refine zq 51 ⟨rfl, rfl⟩ ?_
       refine zm ?_
       refine zm ?_
       refine s_val (ziS qu22 qs65) ?_
       refine zR 6 qu65 qs28 ?_
       refine s_val (r_load1 qg28 rfl (H.rd0 hb0) (ce_ref0 hp0 hx (by omega))) ?_
       refine za ?_
       refine zc (t50 (t1 [])) ?_
       refine c_region (n := 51) ⟨rfl, rfl⟩ ?_
       refine zm ?_
       refine zm ?_
       refine s_new (m_bslice1 (vs := [.int .u64 y.ref]) H qu25 qs28 qo28 (by omega) (by omega) rfl rfl rfl) ?_
       intro w b48 H
       refine s_any (m_append_row0 (L1 := [_]) (N := N) H hR qu25 qu25 (fun _ h => nomatch h) qs28 qo28 rfl Tryz.typeInfo28 (by rw [bytes28]; omega) (by rw [bytes28]; omega) (ec rfl (ec rfl en)) (Src.slice (vs := [.int .u64 y.ref]) (H.at 0 rfl) rfl rfl (by intro v hv; rw [List.mem_singleton.1 hv]; rfl))) ?_
       rintro v w ⟨a5, c5, N5, rfl, hN5, H⟩
       replace H : St w0 [] w (_ :: N5) := H
       have hkk := Decidable.not_not.1 h37
       have hmo : momK y.kind = true := momK_yes (.inr (.inr hkk))
       have hk1 : (ceP y).kind ≠ 1 := fun h => absurd ((show y.kind = 1 from h).symm.trans hkk) (by decide)
       obtain ⟨ns2, hy2⟩ : ∃ x, x = ns ++ [y.ref] := ⟨_, rfl⟩
       have hll : ns2.length = ns.length + 1 := by rw [hy2, List.length_append]; rfl
       rw [← hll] at hN5 ⊢
       have hN6 : RowN 1 28 (uC ns2) ns2.length a5 c5 N5 := by
        have e : uC ns2 = uC ns ++ [.int .u64 y.ref] := by rw [hy2]; simp [uC]
        rw [e]; exact hN5
       have hI2 : needF (findP (cl.map ceP)) 4 n = ns2 ++ needF (findP (cl.map ceP)) (4 - ns2.length) y.ref := by
        obtain ⟨f, hf⟩ : ∃ f, 4 - ns.length = f + 1 := ⟨3 - ns.length, by omega⟩
        rw [hf, need_on hfd hmo hy21 hk1] at hI
        rw [hI, hy2, List.append_assoc]
        have e : 4 - (ns ++ [y.ref]).length = f := by rw [List.length_append]; show 4 - (ns.length + 1) = f; omega
        rw [e]; rfl
       refine za ?_
       refine zb (t50 (t1 [])) ?_
       refine x_blockNormal ?_
       exact ⟨ns2.length, _, rfl, ⟨_, _, _, _, _, _, _, _, _, _, _, _, _, _, _, _, _, _, _, _, _, _, _, _, _, _, _, _, _, _, _, _, _, _, _, _, _, _, _, _, _, _, _, _, ns2, y.ref, a5, c5, N5, rfl, rfl, (by omega), hI2, hN6, (H.sub x0r)⟩, by omega⟩
     ·refine zy ?_
      refine zm ?_
      refine zg ?_
      refine zg ?_
      refine zg ?_
      refine zg ?_
      refine zg ?_
      refine zg ?_
      refine zy ?_
      refine zf ?_
      refine zf ?_
      refine zc (t50 (t1 [])) ?_
      refine c_iff rfl ?_
      refine wp_skip ?_
      refine x_thenNormal ?_
      refine zq 51 ⟨rfl, rfl⟩ ?_
      refine zm ?_
      refine zm ?_
      refine s_val (ziS qu22 qs65) ?_
      refine zR 6 qu65 qs28 ?_
      refine s_val (r_load1 qg28 rfl (H.rd0 hb0) (ce_ref0 hp0 hx (by omega))) ?_
      refine za ?_
      refine zc (t50 (t1 [])) ?_
      refine c_region (n := 51) ⟨rfl, rfl⟩ ?_
      refine zm ?_
      refine zm ?_
      refine s_new (m_bslice1 (vs := [.int .u64 y.ref]) H qu25 qs28 qo28 (by omega) (by omega) rfl rfl rfl) ?_
      intro w b48 H
      refine s_any (m_append_row0 (L1 := [_]) (N := N) H hR qu25 qu25 (fun _ h => nomatch h) qs28 qo28 rfl Tryz.typeInfo28 (by rw [bytes28]; omega) (by rw [bytes28]; omega) (ec rfl (ec rfl en)) (Src.slice (vs := [.int .u64 y.ref]) (H.at 0 rfl) rfl rfl (by intro v hv; rw [List.mem_singleton.1 hv]; rfl))) ?_
      rintro v w ⟨a5, c5, N5, rfl, hN5, H⟩
      replace H : St w0 [] w (_ :: N5) := H
      have hkk := Decidable.not_not.1 h30
      have hmo : momK y.kind = true := momK_yes (.inr (.inl hkk))
      have hk1 : (ceP y).kind ≠ 1 := fun h => absurd ((show y.kind = 1 from h).symm.trans hkk) (by decide)
      obtain ⟨ns2, hy2⟩ : ∃ x, x = ns ++ [y.ref] := ⟨_, rfl⟩
      have hll : ns2.length = ns.length + 1 := by rw [hy2, List.length_append]; rfl
      rw [← hll] at hN5 ⊢
      have hN6 : RowN 1 28 (uC ns2) ns2.length a5 c5 N5 := by
       have e : uC ns2 = uC ns ++ [.int .u64 y.ref] := by rw [hy2]; simp [uC]
       rw [e]; exact hN5
      have hI2 : needF (findP (cl.map ceP)) 4 n = ns2 ++ needF (findP (cl.map ceP)) (4 - ns2.length) y.ref := by
       obtain ⟨f, hf⟩ : ∃ f, 4 - ns.length = f + 1 := ⟨3 - ns.length, by omega⟩
       rw [hf, need_on hfd hmo hy21 hk1] at hI
       rw [hI, hy2, List.append_assoc]
       have e : 4 - (ns ++ [y.ref]).length = f := by rw [List.length_append]; show 4 - (ns.length + 1) = f; omega
       rw [e]; rfl
      refine za ?_
      refine zb (t50 (t1 [])) ?_
      refine x_blockNormal ?_
      exact ⟨ns2.length, _, rfl, ⟨_, _, _, _, _, _, _, _, _, _, _, _, _, _, _, _, _, _, _, _, _, _, _, _, _, _, _, _, _, _, _, _, _, _, _, _, _, _, _, _, _, _, _, _, ns2, y.ref, a5, c5, N5, rfl, rfl, (by omega), hI2, hN6, (H.sub x0r)⟩, by omega⟩
    ·replace H := H.quiet HC
     refine zy ?_
     refine s_val (r_not rfl) ?_
     refine zf ?_
     refine zm ?_
     refine zg ?_
     refine zg ?_
     refine zg ?_
     refine zg ?_
     refine zg ?_
     refine zg ?_
     refine zg ?_
     refine g_undef rfl rfl ?_
     refine g_undef rfl rfl ?_
     refine g_undef rfl rfl ?_
     refine g_undef rfl rfl ?_
     refine g_undef rfl rfl ?_
     refine g_undef rfl rfl ?_
     refine zg ?_
     refine zv ?_
     refine zc (t50 (t1 [])) ?_
     refine c_ift rfl ?_
     refine zq 51 ⟨rfl, rfl⟩ ?_
     refine zm ?_
     refine za ?_
     refine zc (t50 (t1 [])) ?_
     refine wp_ret (x_thenRet (x_blockRet (x_thenRet (x_blockRet (x_thenRet ?_)))))
     refine zw (res1 rfl rfl) ?_
     have hz : needF (findP (cl.map ceP)) (4 - ns.length) m = [] := need_stop (fun c hc h => by rw [hfd] at hc; injection hc with hc; subst hc; exact hy21 h.2.1)
     rw [hz, List.append_nil] at hI
     rw [hI]
     exact ⟨a3, c3, N, rfl, hR, H⟩
  ·replace H := H.quiet HC
   refine za ?_
   refine zc (t50 (t1 [])) ?_
   refine c_seq ?_
   refine zq 51 ⟨rfl, rfl⟩ ?_
   refine zm ?_
   refine s_test (r_lss rfl rfl) (fun h15 => ?_) (fun h15 => ?_)
   ·refine zm ?_
    refine zg ?_
    refine zg ?_
    refine zg ?_
    refine zg ?_
    refine zg ?_
    refine zg ?_
    refine zv ?_
    refine zm ?_
    refine zg ?_
    refine zg ?_
    refine zg ?_
    refine zg ?_
    refine zg ?_
    refine zg ?_
    refine zg ?_
    refine g_undef rfl rfl ?_
    refine g_undef rfl rfl ?_
    refine g_undef rfl rfl ?_
    refine g_undef rfl rfl ?_
    refine g_undef rfl rfl ?_
    refine g_undef rfl rfl ?_
    refine zg ?_
    refine zv ?_
    refine zc (t50 (t1 [])) ?_
    refine c_ift rfl ?_
    refine zq 51 ⟨rfl, rfl⟩ ?_
    refine zm ?_
    refine za ?_
    refine zc (t50 (t1 [])) ?_
    refine wp_ret (x_thenRet (x_blockRet (x_thenRet (x_blockRet (x_thenRet ?_)))))
    refine zw (res1 rfl rfl) ?_
    have hz : needF (findP (cl.map ceP)) (4 - ns.length) m = [] := need_stop (fun c hc h => by rw [hfd] at hc; cases hc)
    rw [hz, List.append_nil] at hI
    rw [hI]
    exact ⟨a3, c3, N, rfl, hR, H⟩
   ·exfalso; omega
 ·refine wp_exit (x_thenExit (x_thenExit (x_blockHit ?_)))
  refine x_thenNormal ?_
  refine zq 51 ⟨rfl, rfl⟩ ?_
  refine zm ?_
  refine za ?_
  refine zc (t50 (t1 [])) ?_
  refine wp_ret ?_
  refine zw (res1 rfl rfl) ?_
  have hz : needF (findP (cl.map ceP)) (4 - ns.length) m = [] := by rw [show 4 - ns.length = 0 by omega]; rfl
  rw [hz, List.append_nil] at hI
  rw [hI]
  exact ⟨a3, c3, N, rfl, hR, H⟩

set_option maxHeartbeats 4000000 in
theorem sorted23_spec (a : Option Addr) (c : Nat) (ls : List Int) (hl : ls.length ≤ 1000) (w0 : World) (hr : URow w0 a ls) :
  Calls Tryz.prog 17 #[.slice a ls.length c] w0 fun e w => ∃ v, e = .returned v ∧ (∃ (os : List Int) (a2 : Option Addr) (c2 : Nat) (N : List (Nat × Obj)), Rise os ∧ (∀ x, x ∈ os ↔ x ∈ ls) ∧ v = .slice a2 os.length c2 ∧ RowN 1 28 (uC os) os.length a2 c2 N ∧ St w0 [] w N) := by
 have H := St.refl w0
 refine c_enter (args := [.slice a ls.length c]) (l := t60 (t1 [])) Tryz.func17 Tryz.ntmps17 rfl rfl ?_
 refine zq 61 ⟨rfl, rfl⟩ ?_
 refine za ?_
 refine zc (t60 (t1 [])) ?_
 refine zq 61 ⟨rfl, rfl⟩ ?_
 refine s_new (m_bslice0 H qu25 qs28) ?_
 intro w b6 H
 refine za ?_
 refine zc (t60 (t1 [])) ?_
 refine c_seq ?_
 refine zq 61 ⟨rfl, rfl⟩ ?_
 refine za ?_
 refine zc (t60 (t1 [])) ?_
 refine wp_block ?_
 have hR0 : RowN 1 28 (uC ([] : List Int)) ([] : List Int).length (some ⟨b6, 0, none⟩) 0 [(b6, Obj.cells (uC [] ++ []).toArray 28 (0, 0))] := RowN.mk (sp := []) rfl (Nat.le_refl _) (Nat.le_refl _)
 refine c_loop (fun (l0 : List Value) (i : Nat) (l : List Value) (w : World) => ∃ (u5 u7 u8 u9 u10 u11 u12 u13 u14 u15 u16 u17 u18 u19 u20 u21 u22 u23 u24 u25 u26 u27 u28 u29 u30 u31 u32 u33 u34 u35 u36 u37 u38 u39 u40 u41 u42 u43 u44 u45 u46 u47 u48 u49 u50 u51 u52 u53 u54 u55 u56 u57 u58 u59 : Value) (out : List Int) (a3 : Option Addr) (c3 : Nat) (N : List (Nat × Obj)), l = ovr l0 [N_, N_, N_, Y_ (.slice a3 out.length c3), Y_ (.int .i64 i), Y_ u5, N_, Y_ u7, Y_ u8, Y_ u9, Y_ u10, Y_ u11, Y_ u12, Y_ u13, Y_ u14, Y_ u15, Y_ u16, Y_ u17, Y_ u18, Y_ u19, Y_ u20, Y_ u21, Y_ u22, Y_ u23, Y_ u24, Y_ u25, Y_ u26, Y_ u27, Y_ u28, Y_ u29, Y_ u30, Y_ u31, Y_ u32, Y_ u33, Y_ u34, Y_ u35, Y_ u36, Y_ u37, Y_ u38, Y_ u39, Y_ u40, Y_ u41, Y_ u42, Y_ u43, Y_ u44, Y_ u45, Y_ u46, Y_ u47, Y_ u48, Y_ u49, Y_ u50, Y_ u51, Y_ u52, Y_ u53, Y_ u54, Y_ u55, Y_ u56, Y_ u57, Y_ u58, Y_ u59] ∧ i ≤ ls.length ∧ Rise out ∧ (∀ x, x ∈ out ↔ x ∈ ls.take i) ∧ RowN 1 28 (uC out) out.length a3 c3 N ∧ out.length ≤ i ∧ St w0 [] w (N)) (fun (i : Nat) => ls.length - i) 0 ⟨_, _, _, _, _, _, _, _, _, _, _, _, _, _, _, _, _, _, _, _, _, _, _, _, _, _, _, _, _, _, _, _, _, _, _, _, _, _, _, _, _, _, _, _, _, _, _, _, _, _, _, _, _, _, [], _, _, _, rfl, Nat.zero_le _, List.Pairwise.nil, (fun x => ⟨fun h => (nomatch h), fun h => (nomatch h)⟩), hR0, Nat.le_refl _, H⟩ ?_
 intro i l w ⟨u5, u7, u8, u9, u10, u11, u12, u13, u14, u15, u16, u17, u18, u19, u20, u21, u22, u23, u24, u25, u26, u27, u28, u29, u30, u31, u32, u33, u34, u35, u36, u37, u38, u39, u40, u41, u42, u43, u44, u45, u46, u47, u48, u49, u50, u51, u52, u53, u54, u55, u56, u57, u58, u59, out, a3, c3, N, hl, hi, hRi, hM, hR, hol, H⟩
 obtain rfl := hl.trans (rfl : _ = t60 (t1 []))
 clear hl
 have hcc := hR.2.1
 refine c_seq ?_
 refine zq 61 ⟨rfl, rfl⟩ ?_
 refine zm ?_
 refine zm ?_
 refine s_val (r_lens qu25 (ec rfl en)) ?_
 refine s_val (r_lss rfl rfl) ?_
 refine zc (t60 (t1 [])) ?_
 refine c_if rfl (fun h10 => ?_) (fun h10 => ?_)
 ·have hxi : ls[i]? = some (ls.getD i 0) := by rw [List.getD_eq_getElem?_getD, List.getElem?_eq_getElem (by omega)]; rfl
  refine wp_skip ?_
  refine x_thenNormal ?_
  refine c_seq ?_
  refine wp_block ?_
  refine zq 61 ⟨rfl, rfl⟩ ?_
  refine za ?_
  refine zc (t60 (t1 [])) ?_
  refine c_seq ?_
  refine wp_block ?_
  refine c_loop (fun (l0 : List Value) (k : Nat) (l : List Value) (w : World) => ∃ (u13 u14 u15 u16 u17 u18 u19 u20 u21 u22 u23 u24 u25 u26 u27 u28 u29 : Value) , l = ovr l0 [N_, N_, N_, N_, N_, Y_ (.int .i64 k), N_, N_, N_, N_, N_, N_, N_, Y_ u13, Y_ u14, Y_ u15, Y_ u16, Y_ u17, Y_ u18, Y_ u19, Y_ u20, Y_ u21, Y_ u22, Y_ u23, Y_ u24, Y_ u25, Y_ u26, Y_ u27, Y_ u28, Y_ u29] ∧ k ≤ out.length ∧ (∀ j, j < k → out.getD j 0 < (ls.getD i 0)) ∧ St w0 [] w (N)) (fun (k : Nat) => out.length - k) 0 ⟨_, _, _, _, _, _, _, _, _, _, _, _, _, _, _, _, _, rfl, Nat.zero_le _, (fun _ h => absurd h (Nat.not_lt_zero _)), H⟩ ?_
  intro k l w ⟨u13, u14, u15, u16, u17, u18, u19, u20, u21, u22, u23, u24, u25, u26, u27, u28, u29, hl, hk, h1, H⟩
  obtain rfl := hl.trans (rfl : _ = t60 (t1 []))
  clear hl
  refine c_seq ?_
  refine c_seq ?_
  refine d_begin (sz := 61) ⟨rfl, rfl⟩ (by kernel_rfl) H (H) rfl ?_
  intro w H
  refine zM 0 H ?_
  refine zM 1 H ?_
  refine zd 2 rfl (by kernel_rfl) (fun _ _ _ h => h) H (r_lens qu25 (ec rfl en)) rfl ?_
  refine zd 3 rfl (by kernel_rfl) (fun _ _ _ h => h) H (r_lss rfl rfl) rfl ?_
  refine d_part (fun h16 => ?_) (fun h16 => ?_)
  ·obtain ⟨bz, spz, rfl, hcz, hNE, hcz2⟩ := RowN.some hR (by omega)
   obtain ⟨bu, offu, preu, postu, Tu, fzu, hau, hbu, hpu⟩ := id hr (by omega)
   subst hau
   refine zM 4 H ?_
   refine zG 5 rfl rfl rfl (by kernel_rfl) (fun _ _ _ h => h) H (r_move rfl) rfl ?_
   refine zG 6 rfl rfl rfl (by kernel_rfl) (fun _ _ _ h => h) H (r_move rfl) rfl ?_
   refine zG 7 rfl rfl rfl (by kernel_rfl) (fun _ _ _ h => h) H (ziS qu25 qs28) rfl ?_
   refine zGh 8 rfl rfl rfl (by kernel_rfl) (fun _ _ _ h => h) H (fun HS => r_load1 qg28 rfl (HS.own (bz, Obj.cells (uC out ++ spz).toArray 28 (0, 0)) (by rw [hNE]; exact List.mem_singleton.2 rfl)) (u_get0 (i := k) (by omega) (by omega))) rfl ?_
   refine zG 9 rfl rfl rfl (by kernel_rfl) (fun _ _ _ h => h) H (r_move rfl) rfl ?_
   refine zG 10 rfl rfl rfl (by kernel_rfl) (fun _ _ _ h => h) H (r_move rfl) rfl ?_
   refine zG 11 rfl rfl rfl (by kernel_rfl) (fun _ _ _ h => h) H (ziS qu25 qs28) rfl ?_
   refine zGh 12 rfl rfl rfl (by kernel_rfl) (fun _ _ _ h => h) H (fun HS => r_load1 qg28 rfl (HS.rd0 hbu) (u_get preu ls postu i hpu (by omega) (by omega))) rfl ?_
   refine zG 13 rfl rfl rfl (by kernel_rfl) (fun _ _ _ h => h) H (r_lss rfl rfl) rfl ?_
   refine d_part (fun h26 => ?_) (fun h26 => ?_)
   ·refine zd 14 rfl (by kernel_rfl) (fun _ _ _ h => h) H (r_pickt rfl rfl) rfl ?_
    refine zz (t60 (t1 [])) ?_
    refine x_thenNormal ?_
    refine c_ift rfl ?_
    refine wp_skip ?_
    refine x_thenNormal ?_
    refine wp_block ?_
    refine c_region (n := 61) ⟨rfl, rfl⟩ ?_
    refine zm ?_
    refine zj ?_
    refine za ?_
    refine zb (t60 (t1 [])) ?_
    refine x_blockNormal ?_
    exact ⟨k + 1, _, rfl, ⟨_, _, _, _, _, _, _, _, _, _, _, _, _, _, _, _, _, rfl, by omega, (fun j hj => (Nat.lt_succ_iff_lt_or_eq.1 hj).elim (h1 j) (fun e => by rw [e]; exact h26)), H⟩, by omega⟩
   ·refine zd 14 rfl (by kernel_rfl) (fun _ _ _ h => h) H (r_pickt rfl rfl) rfl ?_
    refine zz (t60 (t1 [])) ?_
    refine x_thenNormal ?_
    refine c_iff rfl ?_
    refine wp_exit (x_thenExit (x_thenExit (x_blockHit ?_)))
    refine x_thenNormal ?_
    refine c_seq ?_
    refine c_seq ?_
    refine d_begin (sz := 61) ⟨rfl, rfl⟩ (by kernel_rfl) H (H) rfl ?_
    intro w H
    refine zM 0 H ?_
    refine zM 1 H ?_
    refine zd 2 rfl (by kernel_rfl) (fun _ _ _ h => h) H (r_lens qu25 (ec rfl en)) rfl ?_
    refine zd 3 rfl (by kernel_rfl) (fun _ _ _ h => h) H (r_lss rfl rfl) rfl ?_
    refine d_part (fun h33 => ?_) (fun h33 => ?_)
    ·refine zM 4 H ?_
     refine zG 5 rfl rfl rfl (by kernel_rfl) (fun _ _ _ h => h) H (r_move rfl) rfl ?_
     refine zG 6 rfl rfl rfl (by kernel_rfl) (fun _ _ _ h => h) H (r_move rfl) rfl ?_
     refine zG 7 rfl rfl rfl (by kernel_rfl) (fun _ _ _ h => h) H (ziS qu25 qs28) rfl ?_
     refine zGh 8 rfl rfl rfl (by kernel_rfl) (fun _ _ _ h => h) H (fun HS => r_load1 qg28 rfl (HS.own (bz, Obj.cells (uC out ++ spz).toArray 28 (0, 0)) (by rw [hNE]; exact List.mem_singleton.2 rfl)) (u_get0 (i := k) (by omega) (by omega))) rfl ?_
     refine zG 9 rfl rfl rfl (by kernel_rfl) (fun _ _ _ h => h) H (r_move rfl) rfl ?_
     refine zG 10 rfl rfl rfl (by kernel_rfl) (fun _ _ _ h => h) H (r_move rfl) rfl ?_
     refine zG 11 rfl rfl rfl (by kernel_rfl) (fun _ _ _ h => h) H (ziS qu25 qs28) rfl ?_
     refine zGh 12 rfl rfl rfl (by kernel_rfl) (fun _ _ _ h => h) H (fun HS => r_load1 qg28 rfl (HS.rd0 hbu) (u_get preu ls postu i hpu (by omega) (by omega))) rfl ?_
     refine zG 13 rfl rfl rfl (by kernel_rfl) (fun _ _ _ h => h) H (r_eql rfl rfl) rfl ?_
     refine d_part (fun h43 => ?_) (fun h43 => ?_)
     ·refine zd 14 rfl (by kernel_rfl) (fun _ _ _ h => h) H (r_pickt rfl rfl) rfl ?_
      refine zz (t60 (t1 [])) ?_
      refine x_thenNormal ?_
      refine c_ift rfl ?_
      refine wp_exit (x_thenExit (x_blockHit ?_))
      refine x_thenNormal ?_
      refine c_region (n := 61) ⟨rfl, rfl⟩ ?_
      refine zm ?_
      refine zj ?_
      refine za ?_
      refine zb (t60 (t1 [])) ?_
      exact ⟨i + 1, _, rfl, ⟨_,_,_,_,_,_,_,_,_,_,_,_,_,_,_,_,_,_,_,_,_,_,_,_,_,_,_,_,_,_,_,_,_,_,_,_,_,_,_,_,_,_,_,_,_,_,_,_,_,_,_,_,_,_, out, _, c3, N, rfl, by omega, hRi, (fun x => by
        rw [hM x, List.take_add_one, hxi]
        refine ⟨fun h => List.mem_append_left _ h, fun h => (List.mem_append.1 h).elim id fun h => ?_⟩
        have e : x = (ls.getD i 0) := List.mem_singleton.1 h
        rw [← hM x, e, ← h43, List.getD_eq_getElem?_getD, List.getElem?_eq_getElem (by omega)]
        exact List.getElem_mem _), hR, by omega, H⟩, by omega⟩
     ·have hge : k < out.length → (ls.getD i 0) < out.getD k 0 := fun _ => by omega
      refine zd 14 rfl (by kernel_rfl) (fun _ _ _ h => h) H (r_pickt rfl rfl) rfl ?_
      refine zz (t60 (t1 [])) ?_
      refine x_thenNormal ?_
      refine c_iff rfl ?_
      refine wp_skip ?_
      refine x_thenNormal ?_
      refine d_begin (sz := 61) ⟨rfl, rfl⟩ (by kernel_rfl) H (H.sub (List.nil_sublist _)) rfl ?_
      intro w H
      refine zM 1 (H.sub (List.nil_sublist _)) ?_
      refine zM 2 (H.sub (List.nil_sublist _)) ?_
      refine zd 3 rfl (by kernel_rfl) (fun _ _ _ h => h) (H.sub (List.nil_sublist _)) (r_sliceH (hi := k) qu25 qs28 rfl rfl rfl (by omega)) rfl ?_
      refine zM 5 (H.sub (List.nil_sublist _)) ?_
      refine zM 6 (H.sub (List.nil_sublist _)) ?_
      refine zd 7 rfl (by kernel_rfl) (fun _ _ _ h => h) (H.sub (List.nil_sublist _)) (ziS qu25 qs28) rfl ?_
      refine zdh 8 rfl (by kernel_rfl) (fun _ _ _ h => h) (H.sub (List.nil_sublist _)) (fun HS => r_load1 qg28 rfl (HS.rd0 hbu) (u_get preu ls postu i hpu (by omega) (by omega))) rfl ?_
      refine zM 11 (H.sub (List.nil_sublist _)) ?_
      refine zM 12 (H.sub (List.nil_sublist _)) ?_
      refine zd 13 rfl (by kernel_rfl) (fun _ _ _ h => h) (H.sub (List.nil_sublist _)) (r_sliceL (lo := k) qu25 qs28 rfl rfl rfl (by omega)) rfl ?_
      refine zl2 0 9 ?_ ?_
      ·refine b_new rfl go_none (m_bslice0 H qu25 qs28) rfl (fun _ _ H => (H.sub (List.nil_sublist _))) ?_
       intro w b45 H
       refine zl2 4 9 ?_ ?_
       ·replace H := St.mvEnd (A := []) H
        refine b_any rfl go_none (m_append_row0 (L1 := [] ++ N) (N := [_]) H (RowN.mk (cs := []) (sp := []) rfl (Nat.le_refl _) (Nat.le_refl _)) qu25 qu25 (fun _ h => nomatch h) qs28 qo28 rfl Tryz.typeInfo28 (by rw [bytes28]; omega) (by rw [bytes28]; omega) (ec rfl (ec rfl en)) (u_take_src (hR.urowM H (fun p hp => by simp [hp])) (by omega) _)) rfl (by rintro v w ⟨a5, c5, N5, rfl, hN5, H⟩; exact (H.sub (List.nil_sublist _))) ?_
        rintro v w ⟨a5, c5, N5, rfl, hN5, H⟩
        skip
        refine zl1 9 ?_
        refine b_new rfl go_none (m_bslice1 (vs := [.int .u64 (ls.getD i 0)]) H qu25 qs28 qo28 (by omega) (by omega) rfl rfl rfl) rfl (fun _ _ H => (H.sub (List.nil_sublist _))) ?_
        intro w b54 H
        refine zl1 10 ?_
        refine b_any rfl go_none (m_append_row0 (L1 := [_] ++ N) (N := N5) H hN5 qu25 qu25 (fun _ h => nomatch h) qs28 qo28 rfl Tryz.typeInfo28 (by rw [bytes28]; omega) (by rw [bytes28]; omega) (ec rfl (ec rfl en)) (Src.slice (vs := [.int .u64 (ls.getD i 0)]) (H.own (b54, Obj.cells [.int .u64 (ls.getD i 0)].toArray 28 (0, 0)) (by simp)) rfl rfl (by intro v hv; rw [List.mem_singleton.1 hv]; rfl))) rfl (by rintro v w ⟨a6, c6, N6, rfl, hN6, H⟩; exact (H.sub (List.nil_sublist _))) ?_
        rintro v w ⟨a6, c6, N6, rfl, hN6, H⟩
        skip
        refine zl1 14 ?_
        refine b_any rfl go_none (m_append_row0 (L1 := [_] ++ N) (N := N6) H hN6 qu25 qu25 (fun _ h => nomatch h) qs28 qo28 rfl Tryz.typeInfo28 (by rw [bytes28]; omega) (by rw [bytes28]; omega) (ec rfl (ec rfl en)) (u_drop_src (hR.urowM H (fun p hp => by simp [hp])) hR.2.1 k _)) rfl (by rintro v w ⟨a7, c7, N7, rfl, hN7, H⟩; exact (H.sub (List.nil_sublist _))) ?_
        rintro v w ⟨a7, c7, N7, rfl, hN7, H⟩
        have hN8 : RowN 1 28 (uC (out.take k ++ (ls.getD i 0) :: out.drop k)) (out.take k ++ (ls.getD i 0) :: out.drop k).length a7 c7 N7 := by
         have e : uC (out.take k ++ (ls.getD i 0) :: out.drop k) = [] ++ uC (out.take k) ++ [.int .u64 (ls.getD i 0)] ++ uC (out.drop k) := by unfold uC; simp
         have e2 : (out.take k ++ (ls.getD i 0) :: out.drop k).length = 0 + k + 1 + (out.length - k) := by rw [List.length_append, List.length_take, List.length_cons, List.length_drop]; omega
         rw [e, e2]; exact hN7
        rw [show 0 + k + 1 + (out.length - k) = (out.take k ++ (ls.getD i 0) :: out.drop k).length by rw [List.length_append, List.length_take, List.length_cons, List.length_drop]; omega]
        refine zd 15 rfl (by kernel_rfl) (fun _ _ _ h => h) (H.sub (List.nil_sublist _)) (r_assign rfl) rfl ?_
        refine zz (t60 (t1 [])) ?_
        refine x_blockNormal ?_
        refine x_thenNormal ?_
        refine c_region (n := 61) ⟨rfl, rfl⟩ ?_
        refine zm ?_
        refine zj ?_
        refine za ?_
        refine zb (t60 (t1 [])) ?_
        exact ⟨i + 1, _, rfl, ⟨_,_,_,_,_,_,_,_,_,_,_,_,_,_,_,_,_,_,_,_,_,_,_,_,_,_,_,_,_,_,_,_,_,_,_,_,_,_,_,_,_,_,_,_,_,_,_,_,_,_,_,_,_,_, (out.take k ++ (ls.getD i 0) :: out.drop k), a7, c7, N7, rfl, by omega, (rise_ins hRi h1 hge hk), (fun x => by
          rw [mem_insR, hM x, List.take_add_one, hxi, List.mem_append]
          exact or_congr Iff.rfl (by simp)), hN8, (by rw [List.length_append, List.length_take, List.length_cons, List.length_drop]; omega), (H.sub (.cons _ (List.sublist_append_right _ _)))⟩, by omega⟩
       ·refine b_new rfl go_none (m_bslice1 (vs := [.int .u64 (ls.getD i 0)]) H qu25 qs28 qo28 (by omega) (by omega) rfl rfl rfl) rfl (fun _ _ H => (H.sub (List.nil_sublist _))) ?_
        intro w b54 H
        refine zl1 4 ?_
        replace H := St.mvEnd (A := [_]) H
        refine b_any rfl go_none (m_append_row0 (L1 := [_] ++ N) (N := [_]) H (RowN.mk (cs := []) (sp := []) rfl (Nat.le_refl _) (Nat.le_refl _)) qu25 qu25 (fun _ h => nomatch h) qs28 qo28 rfl Tryz.typeInfo28 (by rw [bytes28]; omega) (by rw [bytes28]; omega) (ec rfl (ec rfl en)) (u_take_src (hR.urowM H (fun p hp => by simp [hp])) (by omega) _)) rfl (by rintro v w ⟨a5, c5, N5, rfl, hN5, H⟩; exact (H.sub (List.nil_sublist _))) ?_
        rintro v w ⟨a5, c5, N5, rfl, hN5, H⟩
        skip
        refine zl1 10 ?_
        refine b_any rfl go_none (m_append_row0 (L1 := [_] ++ N) (N := N5) H hN5 qu25 qu25 (fun _ h => nomatch h) qs28 qo28 rfl Tryz.typeInfo28 (by rw [bytes28]; omega) (by rw [bytes28]; omega) (ec rfl (ec rfl en)) (Src.slice (vs := [.int .u64 (ls.getD i 0)]) (H.own (b54, Obj.cells [.int .u64 (ls.getD i 0)].toArray 28 (0, 0)) (by simp)) rfl rfl (by intro v hv; rw [List.mem_singleton.1 hv]; rfl))) rfl (by rintro v w ⟨a6, c6, N6, rfl, hN6, H⟩; exact (H.sub (List.nil_sublist _))) ?_
        rintro v w ⟨a6, c6, N6, rfl, hN6, H⟩
        skip
        refine zl1 14 ?_
        refine b_any rfl go_none (m_append_row0 (L1 := [_] ++ N) (N := N6) H hN6 qu25 qu25 (fun _ h => nomatch h) qs28 qo28 rfl Tryz.typeInfo28 (by rw [bytes28]; omega) (by rw [bytes28]; omega) (ec rfl (ec rfl en)) (u_drop_src (hR.urowM H (fun p hp => by simp [hp])) hR.2.1 k _)) rfl (by rintro v w ⟨a7, c7, N7, rfl, hN7, H⟩; exact (H.sub (List.nil_sublist _))) ?_
        rintro v w ⟨a7, c7, N7, rfl, hN7, H⟩
        have hN8 : RowN 1 28 (uC (out.take k ++ (ls.getD i 0) :: out.drop k)) (out.take k ++ (ls.getD i 0) :: out.drop k).length a7 c7 N7 := by
         have e : uC (out.take k ++ (ls.getD i 0) :: out.drop k) = [] ++ uC (out.take k) ++ [.int .u64 (ls.getD i 0)] ++ uC (out.drop k) := by unfold uC; simp
         have e2 : (out.take k ++ (ls.getD i 0) :: out.drop k).length = 0 + k + 1 + (out.length - k) := by rw [List.length_append, List.length_take, List.length_cons, List.length_drop]; omega
         rw [e, e2]; exact hN7
        rw [show 0 + k + 1 + (out.length - k) = (out.take k ++ (ls.getD i 0) :: out.drop k).length by rw [List.length_append, List.length_take, List.length_cons, List.length_drop]; omega]
        refine zd 15 rfl (by kernel_rfl) (fun _ _ _ h => h) (H.sub (List.nil_sublist _)) (r_assign rfl) rfl ?_
        refine zz (t60 (t1 [])) ?_
        refine x_blockNormal ?_
        refine x_thenNormal ?_
        refine c_region (n := 61) ⟨rfl, rfl⟩ ?_
        refine zm ?_
        refine zj ?_
        refine za ?_
        refine zb (t60 (t1 [])) ?_
        exact ⟨i + 1, _, rfl, ⟨_,_,_,_,_,_,_,_,_,_,_,_,_,_,_,_,_,_,_,_,_,_,_,_,_,_,_,_,_,_,_,_,_,_,_,_,_,_,_,_,_,_,_,_,_,_,_,_,_,_,_,_,_,_, (out.take k ++ (ls.getD i 0) :: out.drop k), a7, c7, N7, rfl, by omega, (rise_ins hRi h1 hge hk), (fun x => by
          rw [mem_insR, hM x, List.take_add_one, hxi, List.mem_append]
          exact or_congr Iff.rfl (by simp)), hN8, (by rw [List.length_append, List.length_take, List.length_cons, List.length_drop]; omega), (H.sub (.cons _ (List.sublist_append_right _ _)))⟩, by omega⟩
      ·refine b_new rfl go_none (m_bslice1 (vs := [.int .u64 (ls.getD i 0)]) H qu25 qs28 qo28 (by omega) (by omega) rfl rfl rfl) rfl (fun _ _ H => (H.sub (List.nil_sublist _))) ?_
       intro w b54 H
       refine zl1 0 ?_
       refine b_new rfl go_none (m_bslice0 H qu25 qs28) rfl (fun _ _ H => (H.sub (List.nil_sublist _))) ?_
       intro w b45 H
       refine zl1 4 ?_
       replace H := St.mvEnd (A := []) H
       refine b_any rfl go_none (m_append_row0 (L1 := [_] ++ N) (N := [_]) H (RowN.mk (cs := []) (sp := []) rfl (Nat.le_refl _) (Nat.le_refl _)) qu25 qu25 (fun _ h => nomatch h) qs28 qo28 rfl Tryz.typeInfo28 (by rw [bytes28]; omega) (by rw [bytes28]; omega) (ec rfl (ec rfl en)) (u_take_src (hR.urowM H (fun p hp => by simp [hp])) (by omega) _)) rfl (by rintro v w ⟨a5, c5, N5, rfl, hN5, H⟩; exact (H.sub (List.nil_sublist _))) ?_
       rintro v w ⟨a5, c5, N5, rfl, hN5, H⟩
       skip
       refine zl1 10 ?_
       refine b_any rfl go_none (m_append_row0 (L1 := [_] ++ N) (N := N5) H hN5 qu25 qu25 (fun _ h => nomatch h) qs28 qo28 rfl Tryz.typeInfo28 (by rw [bytes28]; omega) (by rw [bytes28]; omega) (ec rfl (ec rfl en)) (Src.slice (vs := [.int .u64 (ls.getD i 0)]) (H.own (b54, Obj.cells [.int .u64 (ls.getD i 0)].toArray 28 (0, 0)) (by simp)) rfl rfl (by intro v hv; rw [List.mem_singleton.1 hv]; rfl))) rfl (by rintro v w ⟨a6, c6, N6, rfl, hN6, H⟩; exact (H.sub (List.nil_sublist _))) ?_
       rintro v w ⟨a6, c6, N6, rfl, hN6, H⟩
       skip
       refine zl1 14 ?_
       refine b_any rfl go_none (m_append_row0 (L1 := [_] ++ N) (N := N6) H hN6 qu25 qu25 (fun _ h => nomatch h) qs28 qo28 rfl Tryz.typeInfo28 (by rw [bytes28]; omega) (by rw [bytes28]; omega) (ec rfl (ec rfl en)) (u_drop_src (hR.urowM H (fun p hp => by simp [hp])) hR.2.1 k _)) rfl (by rintro v w ⟨a7, c7, N7, rfl, hN7, H⟩; exact (H.sub (List.nil_sublist _))) ?_
       rintro v w ⟨a7, c7, N7, rfl, hN7, H⟩
       have hN8 : RowN 1 28 (uC (out.take k ++ (ls.getD i 0) :: out.drop k)) (out.take k ++ (ls.getD i 0) :: out.drop k).length a7 c7 N7 := by
        have e : uC (out.take k ++ (ls.getD i 0) :: out.drop k) = [] ++ uC (out.take k) ++ [.int .u64 (ls.getD i 0)] ++ uC (out.drop k) := by unfold uC; simp
        have e2 : (out.take k ++ (ls.getD i 0) :: out.drop k).length = 0 + k + 1 + (out.length - k) := by rw [List.length_append, List.length_take, List.length_cons, List.length_drop]; omega
        rw [e, e2]; exact hN7
       rw [show 0 + k + 1 + (out.length - k) = (out.take k ++ (ls.getD i 0) :: out.drop k).length by rw [List.length_append, List.length_take, List.length_cons, List.length_drop]; omega]
       refine zd 15 rfl (by kernel_rfl) (fun _ _ _ h => h) (H.sub (List.nil_sublist _)) (r_assign rfl) rfl ?_
       refine zz (t60 (t1 [])) ?_
       refine x_blockNormal ?_
       refine x_thenNormal ?_
       refine c_region (n := 61) ⟨rfl, rfl⟩ ?_
       refine zm ?_
       refine zj ?_
       refine za ?_
       refine zb (t60 (t1 [])) ?_
       exact ⟨i + 1, _, rfl, ⟨_,_,_,_,_,_,_,_,_,_,_,_,_,_,_,_,_,_,_,_,_,_,_,_,_,_,_,_,_,_,_,_,_,_,_,_,_,_,_,_,_,_,_,_,_,_,_,_,_,_,_,_,_,_, (out.take k ++ (ls.getD i 0) :: out.drop k), a7, c7, N7, rfl, by omega, (rise_ins hRi h1 hge hk), (fun x => by
         rw [mem_insR, hM x, List.take_add_one, hxi, List.mem_append]
         exact or_congr Iff.rfl (by simp)), hN8, (by rw [List.length_append, List.length_take, List.length_cons, List.length_drop]; omega), (H.sub (.cons _ (List.sublist_append_right _ _)))⟩, by omega⟩
    ·exfalso; omega
  ·refine zM 4 H ?_
   refine zN 5 H ?_
   refine zN 6 H ?_
   refine zN 7 H ?_
   refine zN 8 H ?_
   refine zN 9 H ?_
   refine zN 10 H ?_
   refine zN 11 H ?_
   refine zN 12 H ?_
   refine zN 13 H ?_
   refine zd 14 rfl (by kernel_rfl) (fun _ _ _ h => h) H (r_pickf rfl rfl) rfl ?_
   refine zz (t60 (t1 [])) ?_
   refine x_thenNormal ?_
   refine c_iff rfl ?_
   refine wp_exit (x_thenExit (x_thenExit (x_blockHit ?_)))
   refine x_thenNormal ?_
   refine c_seq ?_
   refine c_seq ?_
   refine d_begin (sz := 61) ⟨rfl, rfl⟩ (by kernel_rfl) H (H) rfl ?_
   intro w H
   refine zM 0 H ?_
   refine zM 1 H ?_
   refine zd 2 rfl (by kernel_rfl) (fun _ _ _ h => h) H (r_lens qu25 (ec rfl en)) rfl ?_
   refine zd 3 rfl (by kernel_rfl) (fun _ _ _ h => h) H (r_lss rfl rfl) rfl ?_
   refine d_part (fun h33 => ?_) (fun h33 => ?_)
   ·exfalso; omega
   ·obtain ⟨bu, offu, preu, postu, Tu, fzu, hau, hbu, hpu⟩ := id hr (by omega)
    subst hau
    have hge : k < out.length → (ls.getD i 0) < out.getD k 0 := fun h => by omega
    refine zM 4 H ?_
    refine zN 5 H ?_
    refine zN 6 H ?_
    refine zN 7 H ?_
    refine zN 8 H ?_
    refine zN 9 H ?_
    refine zN 10 H ?_
    refine zN 11 H ?_
    refine zN 12 H ?_
    refine zN 13 H ?_
    refine zd 14 rfl (by kernel_rfl) (fun _ _ _ h => h) H (r_pickf rfl rfl) rfl ?_
    refine zz (t60 (t1 [])) ?_
    refine x_thenNormal ?_
    refine c_iff rfl ?_
    refine wp_skip ?_
    refine x_thenNormal ?_
    refine d_begin (sz := 61) ⟨rfl, rfl⟩ (by kernel_rfl) H (H.sub (List.nil_sublist _)) rfl ?_
    intro w H
    refine zM 1 (H.sub (List.nil_sublist _)) ?_
    refine zM 2 (H.sub (List.nil_sublist _)) ?_
    refine zd 3 rfl (by kernel_rfl) (fun _ _ _ h => h) (H.sub (List.nil_sublist _)) (r_sliceH (hi := k) qu25 qs28 rfl rfl rfl (by omega)) rfl ?_
    refine zM 5 (H.sub (List.nil_sublist _)) ?_
    refine zM 6 (H.sub (List.nil_sublist _)) ?_
    refine zd 7 rfl (by kernel_rfl) (fun _ _ _ h => h) (H.sub (List.nil_sublist _)) (ziS qu25 qs28) rfl ?_
    refine zdh 8 rfl (by kernel_rfl) (fun _ _ _ h => h) (H.sub (List.nil_sublist _)) (fun HS => r_load1 qg28 rfl (HS.rd0 hbu) (u_get preu ls postu i hpu (by omega) (by omega))) rfl ?_
    refine zM 11 (H.sub (List.nil_sublist _)) ?_
    refine zM 12 (H.sub (List.nil_sublist _)) ?_
    refine zd 13 rfl (by kernel_rfl) (fun _ _ _ h => h) (H.sub (List.nil_sublist _)) (r_sliceL (lo := k) qu25 qs28 rfl rfl rfl (by omega)) rfl ?_
    refine zl2 0 9 ?_ ?_
    ·refine b_new rfl go_none (m_bslice0 H qu25 qs28) rfl (fun _ _ H => (H.sub (List.nil_sublist _))) ?_
     intro w b45 H
     refine zl2 4 9 ?_ ?_
     ·replace H := St.mvEnd (A := []) H
      refine b_any rfl go_none (m_append_row0 (L1 := [] ++ N) (N := [_]) H (RowN.mk (cs := []) (sp := []) rfl (Nat.le_refl _) (Nat.le_refl _)) qu25 qu25 (fun _ h => nomatch h) qs28 qo28 rfl Tryz.typeInfo28 (by rw [bytes28]; omega) (by rw [bytes28]; omega) (ec rfl (ec rfl en)) (u_take_src (hR.urowM H (fun p hp => by simp [hp])) (by omega) _)) rfl (by rintro v w ⟨a5, c5, N5, rfl, hN5, H⟩; exact (H.sub (List.nil_sublist _))) ?_
      rintro v w ⟨a5, c5, N5, rfl, hN5, H⟩
      skip
      refine zl1 9 ?_
      refine b_new rfl go_none (m_bslice1 (vs := [.int .u64 (ls.getD i 0)]) H qu25 qs28 qo28 (by omega) (by omega) rfl rfl rfl) rfl (fun _ _ H => (H.sub (List.nil_sublist _))) ?_
      intro w b54 H
      refine zl1 10 ?_
      refine b_any rfl go_none (m_append_row0 (L1 := [_] ++ N) (N := N5) H hN5 qu25 qu25 (fun _ h => nomatch h) qs28 qo28 rfl Tryz.typeInfo28 (by rw [bytes28]; omega) (by rw [bytes28]; omega) (ec rfl (ec rfl en)) (Src.slice (vs := [.int .u64 (ls.getD i 0)]) (H.own (b54, Obj.cells [.int .u64 (ls.getD i 0)].toArray 28 (0, 0)) (by simp)) rfl rfl (by intro v hv; rw [List.mem_singleton.1 hv]; rfl))) rfl (by rintro v w ⟨a6, c6, N6, rfl, hN6, H⟩; exact (H.sub (List.nil_sublist _))) ?_
      rintro v w ⟨a6, c6, N6, rfl, hN6, H⟩
      skip
      refine zl1 14 ?_
      refine b_any rfl go_none (m_append_row0 (L1 := [_] ++ N) (N := N6) H hN6 qu25 qu25 (fun _ h => nomatch h) qs28 qo28 rfl Tryz.typeInfo28 (by rw [bytes28]; omega) (by rw [bytes28]; omega) (ec rfl (ec rfl en)) (u_drop_src (hR.urowM H (fun p hp => by simp [hp])) hR.2.1 k _)) rfl (by rintro v w ⟨a7, c7, N7, rfl, hN7, H⟩; exact (H.sub (List.nil_sublist _))) ?_
      rintro v w ⟨a7, c7, N7, rfl, hN7, H⟩
      have hN8 : RowN 1 28 (uC (out.take k ++ (ls.getD i 0) :: out.drop k)) (out.take k ++ (ls.getD i 0) :: out.drop k).length a7 c7 N7 := by
       have e : uC (out.take k ++ (ls.getD i 0) :: out.drop k) = [] ++ uC (out.take k) ++ [.int .u64 (ls.getD i 0)] ++ uC (out.drop k) := by unfold uC; simp
       have e2 : (out.take k ++ (ls.getD i 0) :: out.drop k).length = 0 + k + 1 + (out.length - k) := by rw [List.length_append, List.length_take, List.length_cons, List.length_drop]; omega
       rw [e, e2]; exact hN7
      rw [show 0 + k + 1 + (out.length - k) = (out.take k ++ (ls.getD i 0) :: out.drop k).length by rw [List.length_append, List.length_take, List.length_cons, List.length_drop]; omega]
      refine zd 15 rfl (by kernel_rfl) (fun _ _ _ h => h) (H.sub (List.nil_sublist _)) (r_assign rfl) rfl ?_
      refine zz (t60 (t1 [])) ?_
      refine x_blockNormal ?_
      refine x_thenNormal ?_
      refine c_region (n := 61) ⟨rfl, rfl⟩ ?_
      refine zm ?_
      refine zj ?_
      refine za ?_
      refine zb (t60 (t1 [])) ?_
      exact ⟨i + 1, _, rfl, ⟨_,_,_,_,_,_,_,_,_,_,_,_,_,_,_,_,_,_,_,_,_,_,_,_,_,_,_,_,_,_,_,_,_,_,_,_,_,_,_,_,_,_,_,_,_,_,_,_,_,_,_,_,_,_, (out.take k ++ (ls.getD i 0) :: out.drop k), a7, c7, N7, rfl, by omega, (rise_ins hRi h1 hge hk), (fun x => by
        rw [mem_insR, hM x, List.take_add_one, hxi, List.mem_append]
        exact or_congr Iff.rfl (by simp)), hN8, (by rw [List.length_append, List.length_take, List.length_cons, List.length_drop]; omega), (H.sub (.cons _ (List.sublist_append_right _ _)))⟩, by omega⟩
     ·refine b_new rfl go_none (m_bslice1 (vs := [.int .u64 (ls.getD i 0)]) H qu25 qs28 qo28 (by omega) (by omega) rfl rfl rfl) rfl (fun _ _ H => (H.sub (List.nil_sublist _))) ?_
      intro w b54 H
      refine zl1 4 ?_
      replace H := St.mvEnd (A := [_]) H
      refine b_any rfl go_none (m_append_row0 (L1 := [_] ++ N) (N := [_]) H (RowN.mk (cs := []) (sp := []) rfl (Nat.le_refl _) (Nat.le_refl _)) qu25 qu25 (fun _ h => nomatch h) qs28 qo28 rfl Tryz.typeInfo28 (by rw [bytes28]; omega) (by rw [bytes28]; omega) (ec rfl (ec rfl en)) (u_take_src (hR.urowM H (fun p hp => by simp [hp])) (by omega) _)) rfl (by rintro v w ⟨a5, c5, N5, rfl, hN5, H⟩; exact (H.sub (List.nil_sublist _))) ?_
      rintro v w ⟨a5, c5, N5, rfl, hN5, H⟩
      skip
      refine zl1 10 ?_
      refine b_any rfl go_none (m_append_row0 (L1 := [_] ++ N) (N := N5) H hN5 qu25 qu25 (fun _ h => nomatch h) qs28 qo28 rfl Tryz.typeInfo28 (by rw [bytes28]; omega) (by rw [bytes28]; omega) (ec rfl (ec rfl en)) (Src.slice (vs := [.int .u64 (ls.getD i 0)]) (H.own (b54, Obj.cells [.int .u64 (ls.getD i 0)].toArray 28 (0, 0)) (by simp)) rfl rfl (by intro v hv; rw [List.mem_singleton.1 hv]; rfl))) rfl (by rintro v w ⟨a6, c6, N6, rfl, hN6, H⟩; exact (H.sub (List.nil_sublist _))) ?_
      rintro v w ⟨a6, c6, N6, rfl, hN6, H⟩
      skip
      refine zl1 14 ?_
      refine b_any rfl go_none (m_append_row0 (L1 := [_] ++ N) (N := N6) H hN6 qu25 qu25 (fun _ h => nomatch h) qs28 qo28 rfl Tryz.typeInfo28 (by rw [bytes28]; omega) (by rw [bytes28]; omega) (ec rfl (ec rfl en)) (u_drop_src (hR.urowM H (fun p hp => by simp [hp])) hR.2.1 k _)) rfl (by rintro v w ⟨a7, c7, N7, rfl, hN7, H⟩; exact (H.sub (List.nil_sublist _))) ?_
      rintro v w ⟨a7, c7, N7, rfl, hN7, H⟩
      have hN8 : RowN 1 28 (uC (out.take k ++ (ls.getD i 0) :: out.drop k)) (out.take k ++ (ls.getD i 0) :: out.drop k).length a7 c7 N7 := by
       have e : uC (out.take k ++ (ls.getD i 0) :: out.drop k) = [] ++ uC (out.take k) ++ [.int .u64 (ls.getD i 0)] ++ uC (out.drop k) := by unfold uC; simp
       have e2 : (out.take k ++ (ls.getD i 0) :: out.drop k).length = 0 + k + 1 + (out.length - k) := by rw [List.length_append, List.length_take, List.length_cons, List.length_drop]; omega
       rw [e, e2]; exact hN7
      rw [show 0 + k + 1 + (out.length - k) = (out.take k ++ (ls.getD i 0) :: out.drop k).length by rw [List.length_append, List.length_take, List.length_cons, List.length_drop]; omega]
      refine zd 15 rfl (by kernel_rfl) (fun _ _ _ h => h) (H.sub (List.nil_sublist _)) (r_assign rfl) rfl ?_
      refine zz (t60 (t1 [])) ?_
      refine x_blockNormal ?_
      refine x_thenNormal ?_
      refine c_region (n := 61) ⟨rfl, rfl⟩ ?_
      refine zm ?_
      refine zj ?_
      refine za ?_
      refine zb (t60 (t1 [])) ?_
      exact ⟨i + 1, _, rfl, ⟨_,_,_,_,_,_,_,_,_,_,_,_,_,_,_,_,_,_,_,_,_,_,_,_,_,_,_,_,_,_,_,_,_,_,_,_,_,_,_,_,_,_,_,_,_,_,_,_,_,_,_,_,_,_, (out.take k ++ (ls.getD i 0) :: out.drop k), a7, c7, N7, rfl, by omega, (rise_ins hRi h1 hge hk), (fun x => by
        rw [mem_insR, hM x, List.take_add_one, hxi, List.mem_append]
        exact or_congr Iff.rfl (by simp)), hN8, (by rw [List.length_append, List.length_take, List.length_cons, List.length_drop]; omega), (H.sub (.cons _ (List.sublist_append_right _ _)))⟩, by omega⟩
    ·refine b_new rfl go_none (m_bslice1 (vs := [.int .u64 (ls.getD i 0)]) H qu25 qs28 qo28 (by omega) (by omega) rfl rfl rfl) rfl (fun _ _ H => (H.sub (List.nil_sublist _))) ?_
     intro w b54 H
     refine zl1 0 ?_
     refine b_new rfl go_none (m_bslice0 H qu25 qs28) rfl (fun _ _ H => (H.sub (List.nil_sublist _))) ?_
     intro w b45 H
     refine zl1 4 ?_
     replace H := St.mvEnd (A := []) H
     refine b_any rfl go_none (m_append_row0 (L1 := [_] ++ N) (N := [_]) H (RowN.mk (cs := []) (sp := []) rfl (Nat.le_refl _) (Nat.le_refl _)) qu25 qu25 (fun _ h => nomatch h) qs28 qo28 rfl Tryz.typeInfo28 (by rw [bytes28]; omega) (by rw [bytes28]; omega) (ec rfl (ec rfl en)) (u_take_src (hR.urowM H (fun p hp => by simp [hp])) (by omega) _)) rfl (by rintro v w ⟨a5, c5, N5, rfl, hN5, H⟩; exact (H.sub (List.nil_sublist _))) ?_
     rintro v w ⟨a5, c5, N5, rfl, hN5, H⟩
     skip
     refine zl1 10 ?_
     refine b_any rfl go_none (m_append_row0 (L1 := [_] ++ N) (N := N5) H hN5 qu25 qu25 (fun _ h => nomatch h) qs28 qo28 rfl Tryz.typeInfo28 (by rw [bytes28]; omega) (by rw [bytes28]; omega) (ec rfl (ec rfl en)) (Src.slice (vs := [.int .u64 (ls.getD i 0)]) (H.own (b54, Obj.cells [.int .u64 (ls.getD i 0)].toArray 28 (0, 0)) (by simp)) rfl rfl (by intro v hv; rw [List.mem_singleton.1 hv]; rfl))) rfl (by rintro v w ⟨a6, c6, N6, rfl, hN6, H⟩; exact (H.sub (List.nil_sublist _))) ?_
     rintro v w ⟨a6, c6, N6, rfl, hN6, H⟩
     skip
     refine zl1 14 ?_
     refine b_any rfl go_none (m_append_row0 (L1 := [_] ++ N) (N := N6) H hN6 qu25 qu25 (fun _ h => nomatch h) qs28 qo28 rfl Tryz.typeInfo28 (by rw [bytes28]; omega) (by rw [bytes28]; omega) (ec rfl (ec rfl en)) (u_drop_src (hR.urowM H (fun p hp => by simp [hp])) hR.2.1 k _)) rfl (by rintro v w ⟨a7, c7, N7, rfl, hN7, H⟩; exact (H.sub (List.nil_sublist _))) ?_
     rintro v w ⟨a7, c7, N7, rfl, hN7, H⟩
     have hN8 : RowN 1 28 (uC (out.take k ++ (ls.getD i 0) :: out.drop k)) (out.take k ++ (ls.getD i 0) :: out.drop k).length a7 c7 N7 := by
      have e : uC (out.take k ++ (ls.getD i 0) :: out.drop k) = [] ++ uC (out.take k) ++ [.int .u64 (ls.getD i 0)] ++ uC (out.drop k) := by unfold uC; simp
      have e2 : (out.take k ++ (ls.getD i 0) :: out.drop k).length = 0 + k + 1 + (out.length - k) := by rw [List.length_append, List.length_take, List.length_cons, List.length_drop]; omega
      rw [e, e2]; exact hN7
     rw [show 0 + k + 1 + (out.length - k) = (out.take k ++ (ls.getD i 0) :: out.drop k).length by rw [List.length_append, List.length_take, List.length_cons, List.length_drop]; omega]
     refine zd 15 rfl (by kernel_rfl) (fun _ _ _ h => h) (H.sub (List.nil_sublist _)) (r_assign rfl) rfl ?_
     refine zz (t60 (t1 [])) ?_
     refine x_blockNormal ?_
     refine x_thenNormal ?_
     refine c_region (n := 61) ⟨rfl, rfl⟩ ?_
     refine zm ?_
     refine zj ?_
     refine za ?_
     refine zb (t60 (t1 [])) ?_
     exact ⟨i + 1, _, rfl, ⟨_,_,_,_,_,_,_,_,_,_,_,_,_,_,_,_,_,_,_,_,_,_,_,_,_,_,_,_,_,_,_,_,_,_,_,_,_,_,_,_,_,_,_,_,_,_,_,_,_,_,_,_,_,_, (out.take k ++ (ls.getD i 0) :: out.drop k), a7, c7, N7, rfl, by omega, (rise_ins hRi h1 hge hk), (fun x => by
       rw [mem_insR, hM x, List.take_add_one, hxi, List.mem_append]
       exact or_congr Iff.rfl (by simp)), hN8, (by rw [List.length_append, List.length_take, List.length_cons, List.length_drop]; omega), (H.sub (.cons _ (List.sublist_append_right _ _)))⟩, by omega⟩
 ·obtain rfl : i = ls.length := by omega
  rw [List.take_length] at hM
  refine wp_exit (x_thenExit (x_thenExit (x_blockHit ?_)))
  refine x_thenNormal ?_
  refine zq 61 ⟨rfl, rfl⟩ ?_
  refine zm ?_
  refine za ?_
  refine zc (t60 (t1 [])) ?_
  refine wp_ret ?_
  refine zw (res1 rfl rfl) ?_
  exact ⟨out, a3, c3, N, hRi, hM, rfl, hR, H⟩

set_option maxHeartbeats 4000000 in
theorem close23_spec (a : Option Addr) (c : Nat) (cl : List Ce) (b : Option Addr) (d : Nat) (ns : List Int) (hl : cl.length ≤ 1000000) (hn : ns.length ≤ 100) (w0 : World) (hr : RRow ceC w0 a cl) (hb : ∀ y ∈ cl, BRow w0 y.body.a y.body.b) (hs : URow w0 b ns) :
  Calls Tryz.prog 16 #[.slice a cl.length c, .slice b ns.length d] w0 fun e w => ∃ v, e = .returned v ∧ (∃ (os : List Int) (a2 : Option Addr) (c2 : Nat) (N : List (Nat × Obj)), Rise os ∧ (∀ x, x ∈ os ↔ ClM (needF (findP (cl.map ceP)) 4) ns x) ∧ v = .slice a2 os.length c2 ∧ RowN 1 28 (uC os) os.length a2 c2 N ∧ St w0 [] w N) := by
 have H := St.refl w0
 refine c_enter (args := [.slice a cl.length c, .slice b ns.length d]) (l := t20 (t6 [])) Tryz.func16 Tryz.ntmps16 rfl rfl ?_
 refine zq 26 ⟨rfl, rfl⟩ ?_
 refine za ?_
 refine zc (t20 (t6 [])) ?_
 refine zq 26 ⟨rfl, rfl⟩ ?_
 refine s_new (m_bslice0 H qu25 qs28) ?_
 intro w b7 H
 refine zm ?_
 refine s_any (m_append_row0 (L1 := []) (N := [_]) H (RowN.mk (cs := []) (sp := []) rfl (Nat.le_refl _) (Nat.le_refl _)) qu25 qu25 (fun _ h => nomatch h) qs28 qo28 rfl Tryz.typeInfo28 (by rw [bytes28]; omega) (by rw [bytes28]; omega) (ec rfl (ec rfl en)) ((hs.st (H.sub (List.nil_sublist _))).src _)) ?_
 rintro v w ⟨a5, c5, N5, rfl, hN5, H⟩
 replace H : St w0 [] w N5 := H
 rw [Nat.zero_add] at hN5 ⊢
 refine za ?_
 refine zc (t20 (t6 [])) ?_
 refine c_seq ?_
 refine zq 26 ⟨rfl, rfl⟩ ?_
 refine za ?_
 refine zc (t20 (t6 [])) ?_
 refine wp_block ?_
 refine c_loop (fun (l0 : List Value) (i : Nat) (l : List Value) (w : World) => ∃ (u10 u11 u12 u13 u14 u15 u16 u17 u18 u19 u20 u21 u22 u23 : Value) (al : List Int) (a6 : Option Addr) (c6 : Nat) (N : List (Nat × Obj)), l = ovr l0 [N_, N_, N_, N_, N_, Y_ (.slice a6 al.length c6), Y_ (.int .i64 i), N_, N_, N_, Y_ u10, Y_ u11, Y_ u12, Y_ u13, Y_ u14, Y_ u15, Y_ u16, Y_ u17, Y_ u18, Y_ u19, Y_ u20, Y_ u21, Y_ u22, Y_ u23] ∧ i ≤ ns.length ∧ al = ns ++ (ns.take i).flatMap (needF (findP (cl.map ceP)) 4) ∧ al.length ≤ ns.length + 4 * i ∧ RowN 1 28 (uC al) al.length a6 c6 N ∧ St w0 [] w (N)) (fun (i : Nat) => ns.length - i) 0 ⟨_, _, _, _, _, _, _, _, _, _, _, _, _, _, ns, a5, c5, N5, rfl, Nat.zero_le _, (by simp), by omega, hN5, H⟩ ?_
 intro i l w ⟨u10, u11, u12, u13, u14, u15, u16, u17, u18, u19, u20, u21, u22, u23, al, a6, c6, N, hl, hi, hal, hln, hR, H⟩
 obtain rfl := hl.trans (rfl : _ = t20 (t6 []))
 clear hl
 refine c_seq ?_
 refine zq 26 ⟨rfl, rfl⟩ ?_
 refine zm ?_
 refine zm ?_
 refine s_val (r_lens qu25 (ec rfl en)) ?_
 refine s_val (r_lss rfl rfl) ?_
 refine zc (t20 (t6 [])) ?_
 refine c_if rfl (fun h13 => ?_) (fun h13 => ?_)
 ·obtain ⟨bu, offu, preu, postu, Tu, fzu, hau, hbu, hpu⟩ := id hs (by omega)
  subst hau
  refine wp_skip ?_
  refine x_thenNormal ?_
  refine c_seq ?_
  refine wp_block ?_
  refine c_region (n := 26) ⟨rfl, rfl⟩ ?_
  refine zm ?_
  refine zm ?_
  refine zm ?_
  refine zm ?_
  refine s_val (ziS qu25 qs28) ?_
  refine s_val (r_load1 qg28 rfl (H.rd0 hbu) (u_get preu ns postu i hpu (by omega) (by omega))) ?_
  refine s_call (r_call Tryz.call14 (ec rfl (ec rfl en))) (needs23_spec a c cl (ns.getD i 0) hl _ (hr.st (H.sub (List.nil_sublist _))) (fun y hy => (hb y hy).st (H.sub (List.nil_sublist _)))) ?_
  rintro v w ⟨a22, c22, N22, rfl, hN22, HC⟩
  replace H := H.call0 HC
  have h4 := need_len (g := (findP (cl.map ceP))) 4 (ns.getD i 0)
  refine s_any (m_append_row0 (L1 := N22) (N := N) H hR qu25 qu25 (fun _ h => nomatch h) qs28 qo28 rfl Tryz.typeInfo28 (by rw [bytes28]; omega) (by rw [bytes28]; omega) (ec rfl (ec rfl en)) ((hN22.urowM H (fun p hp => List.mem_append_left _ hp)).src _)) ?_
  rintro v w ⟨a6, c6, N6, rfl, hN6, H⟩
  obtain ⟨al2, hal2⟩ : ∃ z, z = al ++ (needF (findP (cl.map ceP)) 4) (ns.getD i 0) := ⟨_, rfl⟩
  have hll : al2.length = al.length + ((needF (findP (cl.map ceP)) 4) (ns.getD i 0)).length := by rw [hal2, List.length_append]
  rw [← hll] at hN6 ⊢
  have hN7 : RowN 1 28 (uC al2) al2.length a6 c6 N6 := by
   have e : uC al2 = uC al ++ uC ((needF (findP (cl.map ceP)) 4) (ns.getD i 0)) := by rw [hal2]; unfold uC; rw [List.map_append]
   rw [e]; exact hN6
  have hal3 : al2 = ns ++ (ns.take (i + 1)).flatMap (needF (findP (cl.map ceP)) 4) := by rw [hal2, hal, fm_take (by omega), List.append_assoc]
  refine za ?_
  refine zb (t20 (t6 [])) ?_
  refine x_blockNormal ?_
  refine x_thenNormal ?_
  refine c_region (n := 26) ⟨rfl, rfl⟩ ?_
  refine zm ?_
  refine zj ?_
  refine za ?_
  refine zb (t20 (t6 [])) ?_
  exact ⟨i + 1, _, rfl, ⟨_, _, _, _, _, _, _, _, _, _, _, _, _, _, al2, a6, c6, N6, rfl, by omega, hal3, by omega, hN7, (H.sub (List.sublist_append_right _ _))⟩, by omega⟩
 ·obtain rfl : i = ns.length := by omega
  rw [List.take_length] at hal
  refine wp_exit (x_thenExit (x_thenExit (x_blockHit ?_)))
  refine x_thenNormal ?_
  refine zq 26 ⟨rfl, rfl⟩ ?_
  refine zm ?_
  refine s_call (r_call Tryz.call17 (ec rfl en)) (sorted23_spec a6 c6 al (by omega) _ (hR.urowM H (fun p hp => hp))) ?_
  rintro v w ⟨os, a2, c2, N2, hri, hm, rfl, hN2, HC⟩
  replace H := H.call0 HC
  refine za ?_
  refine zc (t20 (t6 [])) ?_
  refine wp_ret ?_
  refine zw (res1 rfl rfl) ?_
  exact ⟨os, a2, c2, N2, hri, fun x => (hm x).trans (by rw [hal]; exact clM_all), rfl, hN2, H.sub (List.sublist_append_left _ _)⟩

set_option maxHeartbeats 4000000 in
theorem nums_spec (a : Option Addr) (c : Nat) (b : Option Addr) (d : Nat) (xs ys : List Int) (hl : xs.length ≤ 1000000) (w0 : World) (hx : URow w0 a xs) (hy : URow w0 b ys) :
  Calls Tryz.prog 13 #[.slice a xs.length c, .slice b ys.length d] w0 fun e w => ∃ v, e = .returned v ∧ (v = .bool (decide (xs = ys)) ∧ St w0 [] w []) := by
 have H := St.refl w0
 refine c_enter (args := [.slice a xs.length c, .slice b ys.length d]) (l := t20 (t6 [])) Tryz.func13 Tryz.ntmps13 rfl rfl ?_
 refine zq 26 ⟨rfl, rfl⟩ ?_
 refine za ?_
 refine zc (t20 (t6 [])) ?_
 refine c_seq ?_
 refine zq 26 ⟨rfl, rfl⟩ ?_
 refine zm ?_
 refine s_val (r_lens qu25 (ec rfl en)) ?_
 refine zm ?_
 refine s_val (r_lens qu25 (ec rfl en)) ?_
 refine s_val (r_neq rfl rfl) ?_
 refine zc (t20 (t6 [])) ?_
 refine c_if rfl (fun h10 => ?_) (fun h10 => ?_)
 ·refine zq 26 ⟨rfl, rfl⟩ ?_
  refine za ?_
  refine zc (t20 (t6 [])) ?_
  refine wp_ret (x_thenRet ?_)
  refine zw (res1 rfl rfl) ?_
  exact ⟨by rw [decide_eq_false (fun e => h10 (by rw [e]))], H⟩
 ·have hxy : xs.length = ys.length := by omega
  refine wp_skip ?_
  refine x_thenNormal ?_
  refine c_seq ?_
  refine zq 26 ⟨rfl, rfl⟩ ?_
  refine zm ?_
  refine s_val (r_lens qu25 (ec rfl en)) ?_
  refine zm ?_
  refine zc (t20 (t6 [])) ?_
  refine wp_block ?_
  refine c_loop (fun (l0 : List Value) (i : Nat) (l : List Value) (w : World) => ∃ (u4 u5 u14 u15 u16 u17 u18 u19 u20 u21 u22 u23 u24 u25 : Value) , l = ovr l0 [N_, N_, N_, N_, Y_ u4, Y_ u5, N_, N_, N_, N_, N_, N_, N_, Y_ (.int .i64 i), Y_ u14, Y_ u15, Y_ u16, Y_ u17, Y_ u18, Y_ u19, Y_ u20, Y_ u21, Y_ u22, Y_ u23, Y_ u24, Y_ u25] ∧ i ≤ xs.length ∧ xs.take i = ys.take i ∧ St w0 [] w []) (fun (i : Nat) => xs.length - i) 0 ⟨_, _, _, _, _, _, _, _, _, _, _, _, _, _, rfl, Nat.zero_le _, rfl, H⟩ ?_
  intro i l w ⟨u4, u5, u14, u15, u16, u17, u18, u19, u20, u21, u22, u23, u24, u25, hl, hi, hE, H⟩
  obtain rfl := hl.trans (rfl : _ = t20 (t6 []))
  clear hl
  refine zq 26 ⟨rfl, rfl⟩ ?_
  refine s_val (r_lss rfl rfl) ?_
  refine zc (t20 (t6 [])) ?_
  refine c_seq ?_
  refine c_if rfl (fun h14 => ?_) (fun h14 => ?_)
  ·obtain ⟨bu, offu, preu, postu, Tu, fzu, hau, hbu, hpu⟩ := id hx (by omega)
   obtain ⟨bt, offt, pret, postt, Tt, fzt, hat, hbt, hpt⟩ := id hy (by omega)
   subst hau hat
   refine wp_skip ?_
   refine x_thenNormal ?_
   refine c_seq ?_
   refine wp_block ?_
   refine zq 26 ⟨rfl, rfl⟩ ?_
   refine zm ?_
   refine za ?_
   refine zc (t20 (t6 [])) ?_
   refine c_seq ?_
   refine d_begin (sz := 26) ⟨rfl, rfl⟩ (by kernel_rfl) H (H) rfl ?_
   intro w H
   refine zM 0 H ?_
   refine zM 1 H ?_
   refine zd 2 rfl (by kernel_rfl) (fun _ _ _ h => h) H (ziS qu25 qs28) rfl ?_
   refine zdh 3 rfl (by kernel_rfl) (fun _ _ _ h => h) H (fun HS => r_load1 qg28 rfl (HS.rd0 hbu) (u_get preu xs postu i hpu (by omega) (by omega))) rfl ?_
   refine zM 4 H ?_
   refine zM 5 H ?_
   refine zd 6 rfl (by kernel_rfl) (fun _ _ _ h => h) H (ziS qu25 qs28) rfl ?_
   refine zdh 7 rfl (by kernel_rfl) (fun _ _ _ h => h) H (fun HS => r_load1 qg28 rfl (HS.rd0 hbt) (u_get pret ys postt i hpt (by omega) (by omega))) rfl ?_
   refine zd 8 rfl (by kernel_rfl) (fun _ _ _ h => h) H (r_neq rfl rfl) rfl ?_
   refine zz (t20 (t6 [])) ?_
   refine x_thenNormal ?_
   refine c_if rfl (fun h24 => ?_) (fun h24 => ?_)
   ·refine zq 26 ⟨rfl, rfl⟩ ?_
    refine za ?_
    refine zc (t20 (t6 [])) ?_
    refine wp_ret (x_blockRet (x_thenRet (x_thenRet (x_blockRet (x_thenRet ?_)))))
    refine zw (res1 rfl rfl) ?_
    exact ⟨by rw [decide_eq_false (fun e => h24 (by rw [e]))], H⟩
   ·refine wp_skip ?_
    refine x_blockNormal ?_
    refine x_thenNormal ?_
    refine c_region (n := 26) ⟨rfl, rfl⟩ ?_
    refine zj ?_
    refine zm ?_
    refine zb (t20 (t6 [])) ?_
    exact ⟨i + 1, _, rfl, ⟨_, _, _, _, _, _, _, _, _, _, _, _, _, _, rfl, by omega, (take_eq hE (by omega) (by omega) (Decidable.not_not.1 h24)), H⟩, by omega⟩
  ·obtain rfl : i = xs.length := by omega
   have hfin : xs = ys := by rw [List.take_length, hxy, List.take_length] at hE; exact hE
   refine wp_exit (x_thenExit (x_thenExit (x_blockHit ?_)))
   refine x_thenNormal ?_
   refine zq 26 ⟨rfl, rfl⟩ ?_
   refine za ?_
   refine zc (t20 (t6 [])) ?_
   refine wp_ret ?_
   refine zw (res1 rfl rfl) ?_
   exact ⟨by rw [decide_eq_true hfin], H⟩

end Go.Proofs.YtobfnieebiakeaaGreat

