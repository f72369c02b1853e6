import Derived.Test.YtobfnieebiakeaaGreatPM
import Derived.Test.YtobfnieebiakeaaGreatPF1
import Derived.Test.YtobfnieebiakeaaGreatPV5
namespace Go.Proofs.YtobfnieebiakeaaGreat
open Go Go.Er

set_option maxHeartbeats 4000000 in
theorem way23_spec (a : Option Addr) (c : Nat) (cl : List Ce) (n : Int) (hl : cl.length ≤ 1000000) (ka : Option Addr) (kc : Nat) (ks : List Kn) (hkl : ks.length ≤ 1000000) (xs : List Held) (hK : KsA xs cl ks) (w0 : World) (hr : RRow ceC w0 a cl) (hb : ∀ y ∈ cl, BRow w0 y.body.a y.body.b) (hk : RRow knC w0 ka ks) :
  Calls Tryz.prog 30 #[.slice a cl.length c, .slice ka ks.length kc, .int .u64 n] w0 fun e w => ∃ v, e = .returned v ∧ (∃ (ys : List Ce) (e : Int) (a2 : Option Addr) (c2 : Nat) (N : List (Nat × Obj)), v = .tuple #[.slice a2 ys.length c2, .int .i64 e] ∧ wayF (findP (cl.map ceP)) (hasH xs) 5 0 n = (ys.map ceP, e) ∧ (∀ y ∈ ys, y ∈ cl) ∧ RowN 11 65 (rowC ceC ys) ys.length a2 c2 N ∧ St w0 [] w N) := by
 have H := St.refl w0
 refine c_enter (args := [.slice a cl.length c, .slice ka ks.length kc, .int .u64 n]) (l := t60 (t4 [])) Tryz.func30 Tryz.ntmps30 rfl rfl ?_
 refine zq 64 ⟨rfl, rfl⟩ ?_
 refine za ?_
 refine za ?_
 refine zc (t60 (t4 [])) ?_
 refine zq 64 ⟨rfl, rfl⟩ ?_
 refine s_new (m_bslice0 H qu22 qs65) ?_
 intro w b11 H
 refine za ?_
 refine zc (t60 (t4 [])) ?_
 refine wp_block ?_
 have hR0 : RowN 11 65 (rowC ceC ([] : List Ce)) ([] : List Ce).length (some ⟨b11, 0, none⟩) 0 [(b11, Obj.cells (rowC ceC [] ++ []).toArray 65 (0, 0))] := RowN.mk (sp := []) rfl (Nat.le_refl _) (Nat.le_refl _)
 refine c_loop (fun (l0 : List Value) (k : Nat) (l : List Value) (w : World) => ∃ (u6 u7 u9 u10 u12 u13 u14 u15 u16 u17 u18 u19 u20 u21 u22 u23 u24 u25 u26 u27 u28 u29 u30 u31 u32 u33 u34 u35 u36 u37 u38 u39 u40 u41 u42 u43 u44 u45 u46 u47 u48 u49 u50 u51 u52 u53 u54 u55 u56 u57 u58 u59 u60 u61 u62 u63 : Value) (ys : List Ce) (m : Int) (a2 : Option Addr) (c2 : Nat) (N : List (Nat × Obj)), l = ovr l0 [N_, N_, Y_ (.int .u64 m), N_, N_, N_, Y_ u6, Y_ u7, Y_ (.slice a2 ys.length c2), Y_ u9, Y_ u10, N_, Y_ u12, Y_ u13, Y_ u14, Y_ u15, Y_ u16, Y_ u17, Y_ u18, Y_ u19, Y_ u20, Y_ u21, Y_ u22, Y_ u23, Y_ u24, Y_ u25, Y_ u26, Y_ u27, Y_ u28, Y_ u29, Y_ u30, Y_ u31, Y_ u32, Y_ u33, Y_ u34, Y_ u35, Y_ u36, Y_ u37, Y_ u38, Y_ u39, Y_ u40, Y_ u41, Y_ u42, Y_ u43, Y_ u44, Y_ u45, Y_ u46, Y_ u47, Y_ u48, Y_ u49, Y_ u50, Y_ u51, Y_ u52, Y_ u53, Y_ u54, Y_ u55, Y_ u56, Y_ u57, Y_ u58, Y_ u59, Y_ u60, Y_ u61, Y_ u62, Y_ u63] ∧ k = ys.length ∧ ys.length ≤ 4 ∧ WayI (findP (cl.map ceP)) (hasH xs) n (ys.map ceP) m ∧ (∀ y ∈ ys, y ∈ cl) ∧ RowN 11 65 (rowC ceC ys) ys.length a2 c2 N ∧ St w0 [] w (N)) (fun (k : Nat) => 5 - k) 0 ⟨_, _, _, _, _, _, _, _, _, _, _, _, _, _, _, _, _, _, _, _, _, _, _, _, _, _, _, _, _, _, _, _, _, _, _, _, _, _, _, _, _, _, _, _, _, _, _, _, _, _, _, _, _, _, _, _, [], n, _, _, _, rfl, rfl, (Nat.zero_le _), (WayI.start _ _ _), (fun _ h => nomatch h), hR0, H⟩ ?_
 intro k l w ⟨u6, u7, u9, u10, u12, u13, u14, u15, u16, u17, u18, u19, u20, u21, u22, u23, u24, u25, u26, u27, u28, u29, u30, u31, u32, u33, u34, u35, u36, u37, u38, u39, u40, u41, u42, u43, u44, u45, u46, u47, u48, u49, u50, u51, u52, u53, u54, u55, u56, u57, u58, u59, u60, u61, u62, u63, ys, m, a2, c2, N, hl, hkk, h4, hW, hY, hR, H⟩
 obtain rfl := hl.trans (rfl : _ = t60 (t4 []))
 clear hl
 refine wp_block ?_
 refine zq 64 ⟨rfl, rfl⟩ ?_
 refine zm ?_
 refine zm ?_
 refine s_call (r_call Tryz.call38 (ec rfl (ec rfl en))) (find23_spec a c cl m hl _ (hr.st (H.sub (List.nil_sublist _)))) ?_
 rintro v w (⟨i, y, hx, hfd, rfl, HC⟩ | ⟨hfd, rfl, HC⟩)
 ·replace H := H.quiet HC
  have hil := (List.getElem?_eq_some_iff.1 hx).1
  have hym := List.mem_of_getElem? hx
  have hyb := hb y hym
  obtain ⟨b0, off, pre, post, T0, fz0, ha0, hb0, hp0⟩ := hr (by omega)
  subst ha0
  have hnm : y.num = m := findP_num hfd
  refine za ?_
  refine zc (t60 (t4 [])) ?_
  refine c_seq ?_
  refine zq 64 ⟨rfl, rfl⟩ ?_
  refine zm ?_
  refine s_test (r_lss rfl rfl) (fun h16 => ?_) (fun h16 => ?_)
  ·exfalso; omega
  ·refine zm ?_
   refine zy ?_
   refine zm ?_
   refine zy ?_
   refine zm ?_
   refine zy ?_
   refine s_val (ziS qu22 qs65) ?_
   refine zy ?_
   refine s_val (r_loadn qg65 qs65 rfl (H.rd0 hb0) (row_td elCe pre post hp0 hx (by omega)) (ceC_length _)) ?_
   refine zy ?_
   refine s_call (r_call Tryz.call57 (ec rfl en)) (moment23_spec _ _) ?_
   rintro v w ⟨rfl, HC⟩
   replace H := H.quiet HC
   refine zy ?_
   refine s_testb (r_not rfl) (fun h23 => ?_) (fun h23 => ?_)
   ·have hmo : momK y.kind = false := by simpa using h23
    refine zf ?_
    refine zc (t60 (t4 [])) ?_
    refine c_ift rfl ?_
    refine zq 64 ⟨rfl, rfl⟩ ?_
    refine zm ?_
    refine za ?_
    refine za ?_
    refine zc (t60 (t4 [])) ?_
    refine wp_ret (x_thenRet (x_blockRet (x_thenRet (x_blockRet ?_))))
    refine zw (res2 rfl rfl rfl) ?_
    have hlk : lookF (findP (cl.map ceP)) (hasH xs) ys.length m = 4 := by rw [look_some hfd]; exact if_pos hmo
    have hw := hW.bad (by rw [List.length_map, hlk]; decide)
    rw [List.length_map, hlk] at hw
    exact ⟨ys, _, a2, c2, N, rfl, hw, hY, hR, H.sub (List.Sublist.refl _)⟩
   ·have hmo : momK y.kind = true := by simpa using h23
    refine zf ?_
    refine zc (t60 (t4 [])) ?_
    refine c_iff rfl ?_
    refine wp_skip ?_
    refine x_thenNormal ?_
    refine zq 64 ⟨rfl, rfl⟩ ?_
    refine zm ?_
    refine zm ?_
    refine s_val (ziS qu22 qs65) ?_
    refine s_val (r_loadn qg65 qs65 rfl (H.rd0 hb0) (row_td elCe pre post hp0 hx (by omega)) (ceC_length _)) ?_
    refine s_new (zA (ceC ce0) H qo65) ?_
    intro w b10 H
    refine s_st (zs H 0 11 qs65) (L' := (_ :: _)) rfl ?_
    intro w H
    refine zc (t60 (t4 [])) ?_
    refine c_seq ?_
    refine zq 64 ⟨rfl, rfl⟩ ?_
    refine s_val (r_loadn qg65 qs65 rfl (H.at 0 rfl) (ceC_td _) (ceC_length _)) ?_
    refine s_call (r_call Tryz.call39 (ec rfl en)) (right12_spec y _ (hyb.st (H.sub (List.nil_sublist _)))) ?_
    rintro v w (⟨hy31, rfl, HC⟩ | ⟨hy31, rfl, HC⟩)
    ·replace H := H.quiet HC
     refine s_val (r_not rfl) ?_
     refine zc (t60 (t4 [])) ?_
     refine c_iff rfl ?_
     refine wp_skip ?_
     refine x_thenNormal ?_
     refine c_seq ?_
     refine zq 64 ⟨rfl, rfl⟩ ?_
     refine zR 0 qu65 qs3 ?_
     refine s_val (r_load1 qg3 rfl (H.at 0 rfl) (rfl : _ = some (Value.int .i64 y.kind))) ?_
     refine s_test (r_neq rfl rfl) (fun h36 => ?_) (fun h36 => ?_)
     ·refine zm ?_
      refine zy ?_
      refine zm ?_
      refine zy ?_
      refine s_val (r_lens qu22 (ec rfl en)) ?_
      refine zy ?_
      refine s_test (r_geq rfl rfl) (fun h40 => ?_) (fun h40 => ?_)
      ·refine zv ?_
       refine zc (t60 (t4 [])) ?_
       refine c_ift rfl ?_
       refine zq 64 ⟨rfl, rfl⟩ ?_
       refine zm ?_
       refine za ?_
       refine za ?_
       refine zc (t60 (t4 [])) ?_
       refine wp_ret (x_thenRet (x_blockRet (x_thenRet (x_blockRet ?_))))
       refine zw (res2 rfl rfl rfl) ?_
       have hlk : lookF (findP (cl.map ceP)) (hasH xs) ys.length m = 16 := by rw [look_some hfd, if_neg (show ¬ momK (ceP y).kind = false from fun h => absurd (hmo.symm.trans h) (by decide)), if_neg (show ¬ ¬ rightC (ceP y) from fun h => h hy31), if_pos ⟨h36, by omega⟩]
       have hw := hW.bad (by rw [List.length_map, hlk]; decide)
       rw [List.length_map, hlk] at hw
       exact ⟨ys, _, a2, c2, N, rfl, hw, hY, hR, H.sub (.cons _ (List.Sublist.refl _))⟩
      ·refine zv ?_
       refine zc (t60 (t4 [])) ?_
       refine c_iff rfl ?_
       refine wp_skip ?_
       refine x_thenNormal ?_
       refine c_seq ?_
       refine zq 64 ⟨rfl, rfl⟩ ?_
       refine zR 0 qu65 qs3 ?_
       refine s_val (r_load1 qg3 rfl (H.at 0 rfl) (rfl : _ = some (Value.int .i64 y.kind))) ?_
       refine s_test (r_neq rfl rfl) (fun h45 => ?_) (fun h45 => ?_)
       ·refine zm ?_
        refine zy ?_
        refine zm ?_
        refine zy ?_
        refine zm ?_
        refine zy ?_
        refine s_call (r_call qc20 (ec rfl en)) (leaf_spec _ _) ?_
        rintro v w ⟨rfl, HC⟩
        replace H := H.quiet HC
        have hlf : lf m = 2 * m := by rw [← hnm]; exact lf_right hy31
        rw [hlf]
        refine zy ?_
        refine s_call (r_call Tryz.call31 (ec rfl (ec rfl en))) (key23_spec ka kc ks (2 * m) hkl _ (hk.st (H.sub (List.nil_sublist _)))) ?_
        rintro v w (⟨j, q, hj, hq, rfl, HC⟩ | ⟨hnk, rfl, HC⟩)
        ·replace H := H.quiet HC
         have hh : hasH xs (2 * m) = true := by rw [← hq]; exact (hK.1 q (List.mem_of_getElem? hj)).1
         refine zy ?_
         refine s_test (r_lss rfl rfl) (fun h51 => ?_) (fun h51 => ?_)
         ·exfalso; omega
         ·refine zv ?_
          refine zc (t60 (t4 [])) ?_
          refine c_iff rfl ?_
          refine wp_skip ?_
          refine x_thenNormal ?_
          refine zq 64 ⟨rfl, rfl⟩ ?_
          refine zm ?_
          refine s_val (zp qg65 qs65 (H.at 0 rfl) (ceC_td _)) ?_
          refine s_new (m_bslice1 (vs := ceC y) H qu22 qs65 qo65 (by omega) (by omega) rfl rfl rfl) ?_
          intro w b56 H
          refine s_any (m_append_row0 (L1 := [_,_]) (N := N) H hR qu22 qu22 (fun _ h => nomatch h) qs65 qo65 rfl Tryz.typeInfo65 (by rw [bytes65]; omega) (by rw [bytes65]; omega) (ec rfl (ec rfl en)) (Src.slice (vs := ceC y) (H.at 0 rfl) rfl rfl (ceC_one _))) ?_
          rintro v w ⟨a5, c5, N4, rfl, hN4, H⟩
          replace H : St w0 [] w (_ :: _ :: N4) := H
          have hlk : lookF (findP (cl.map ceP)) (hasH xs) ys.length m = 0 := by rw [look_some hfd, if_neg (show ¬ momK (ceP y).kind = false from fun h => absurd (hmo.symm.trans h) (by decide)), if_neg (show ¬ ¬ rightC (ceP y) from fun h => h hy31), if_neg (show ¬ ((ceP y).kind ≠ 1 ∧ ys.length = 4) from fun h => h40 (by have := h.2; omega)), if_neg (show ¬ ((ceP y).kind ≠ 2 ∧ hasH xs (2 * m) = false) from fun h => absurd (hh.symm.trans h.2) (by decide))]
          obtain ⟨ys2, hy2⟩ : ∃ ys2, ys2 = ys ++ [y] := ⟨_, rfl⟩
          have hll : ys2.length = ys.length + 1 := by rw [hy2, List.length_append]; rfl
          rw [← hll] at hN4 ⊢
          have hN5 : RowN 11 65 (rowC ceC ys2) ys2.length a5 c5 N4 := by rw [hy2, rowC_append, rowC_one1, ← hy2]; exact hN4
          have e2 : ys2.map ceP = ys.map ceP ++ [ceP y] := by rw [hy2, List.map_append]; rfl
          have hY2 : ∀ z ∈ ys2, z ∈ cl := by
           intro z hz
           rw [hy2] at hz
           rcases List.mem_append.1 hz with h | h
           ·exact hY z h
           ·rw [List.mem_singleton.1 h]; exact hym
          refine za ?_
          refine zc (t60 (t4 [])) ?_
          refine c_seq ?_
          refine zq 64 ⟨rfl, rfl⟩ ?_
          refine zR 0 qu65 qs3 ?_
          refine s_val (r_load1 qg3 rfl (H.at 1 rfl) (rfl : _ = some (Value.int .i64 y.kind))) ?_
          refine s_val (r_eql rfl rfl) ?_
          refine zc (t60 (t4 [])) ?_
          refine c_if rfl (fun h60 => ?_) (fun h60 => ?_)
          ·refine zq 64 ⟨rfl, rfl⟩ ?_
           refine zm ?_
           refine za ?_
           refine za ?_
           refine zc (t60 (t4 [])) ?_
           refine wp_ret (x_thenRet (x_blockRet (x_thenRet (x_blockRet ?_))))
           refine zw (res2 rfl rfl rfl) ?_
           have hw := hW.full (by rw [List.length_map]; exact hlk) hfd h60
           rw [← e2] at hw
           exact ⟨ys2, _, a5, c5, N4, rfl, hw, hY2, hN5, H.sub (.cons _ (.cons _ (List.Sublist.refl _)))⟩
          ·have hW2 : WayI (findP (cl.map ceP)) (hasH xs) n (ys2.map ceP) y.ref := by
            rw [e2]
            exact hW.on (by rw [List.length_map]; exact hlk) hfd h60
           have h44 : ys2.length ≤ 4 := by have h := hW2.1; rwa [List.length_map] at h
           refine wp_skip ?_
           refine x_thenNormal ?_
           refine c_region (n := 64) ⟨rfl, rfl⟩ ?_
           refine zR 6 qu65 qs28 ?_
           refine s_val (r_load1 qg28 rfl (H.at 1 rfl) (rfl : _ = some (Value.int .u64 y.ref))) ?_
           refine za ?_
           refine zb (t60 (t4 [])) ?_
           refine x_blockNormal ?_
           exact ⟨ys2.length, _, rfl, ⟨_, _, _, _, _, _, _, _, _, _, _, _, _, _, _, _, _, _, _, _, _, _, _, _, _, _, _, _, _, _, _, _, _, _, _, _, _, _, _, _, _, _, _, _, _, _, _, _, _, _, _, _, _, _, _, _, ys2, y.ref, a5, c5, N4, rfl, rfl, h44, hW2, hY2, hN5, (H.sub x00r)⟩, by omega⟩
        ·replace H := H.quiet HC
         have hh := ksA_no hK hym (by rw [hnm, hlf]) hnk
         refine zy ?_
         refine s_test (r_lss rfl rfl) (fun h51 => ?_) (fun h51 => ?_)
         ·refine zv ?_
          refine zc (t60 (t4 [])) ?_
          refine c_ift rfl ?_
          refine zq 64 ⟨rfl, rfl⟩ ?_
          refine zm ?_
          refine za ?_
          refine za ?_
          refine zc (t60 (t4 [])) ?_
          refine wp_ret (x_thenRet (x_blockRet (x_thenRet (x_blockRet ?_))))
          refine zw (res2 rfl rfl rfl) ?_
          have hlk : lookF (findP (cl.map ceP)) (hasH xs) ys.length m = 10 := by rw [look_some hfd, if_neg (show ¬ momK (ceP y).kind = false from fun h => absurd (hmo.symm.trans h) (by decide)), if_neg (show ¬ ¬ rightC (ceP y) from fun h => h hy31), if_neg (show ¬ ((ceP y).kind ≠ 1 ∧ ys.length = 4) from fun h => h40 (by have := h.2; omega)), if_pos ⟨h45, hh⟩]
          have hw := hW.bad (by rw [List.length_map, hlk]; decide)
          rw [List.length_map, hlk] at hw
          exact ⟨ys, _, a2, c2, N, rfl, hw, hY, hR, H.sub (.cons _ (List.Sublist.refl _))⟩
         ·exfalso; omega
       ·refine zm ?_
        refine zg ?_
        refine zg ?_
        refine zg ?_
        refine zg ?_
        refine zg ?_
        refine zf ?_
        refine zc (t60 (t4 [])) ?_
        refine c_iff rfl ?_
        refine wp_skip ?_
        refine x_thenNormal ?_
        refine zq 64 ⟨rfl, rfl⟩ ?_
        refine zm ?_
        refine s_val (zp qg65 qs65 (H.at 0 rfl) (ceC_td _)) ?_
        refine s_new (m_bslice1 (vs := ceC y) H qu22 qs65 qo65 (by omega) (by omega) rfl rfl rfl) ?_
        intro w b56 H
        refine s_any (m_append_row0 (L1 := [_,_]) (N := N) H hR qu22 qu22 (fun _ h => nomatch h) qs65 qo65 rfl Tryz.typeInfo65 (by rw [bytes65]; omega) (by rw [bytes65]; omega) (ec rfl (ec rfl en)) (Src.slice (vs := ceC y) (H.at 0 rfl) rfl rfl (ceC_one _))) ?_
        rintro v w ⟨a5, c5, N4, rfl, hN4, H⟩
        replace H : St w0 [] w (_ :: _ :: N4) := H
        have hlk : lookF (findP (cl.map ceP)) (hasH xs) ys.length m = 0 := by rw [look_some hfd, if_neg (show ¬ momK (ceP y).kind = false from fun h => absurd (hmo.symm.trans h) (by decide)), if_neg (show ¬ ¬ rightC (ceP y) from fun h => h hy31), if_neg (show ¬ ((ceP y).kind ≠ 1 ∧ ys.length = 4) from fun h => h40 (by have := h.2; omega)), if_neg (show ¬ ((ceP y).kind ≠ 2 ∧ hasH xs (2 * m) = false) from fun h => h45 h.1)]
        obtain ⟨ys2, hy2⟩ : ∃ ys2, ys2 = ys ++ [y] := ⟨_, rfl⟩
        have hll : ys2.length = ys.length + 1 := by rw [hy2, List.length_append]; rfl
        rw [← hll] at hN4 ⊢
        have hN5 : RowN 11 65 (rowC ceC ys2) ys2.length a5 c5 N4 := by rw [hy2, rowC_append, rowC_one1, ← hy2]; exact hN4
        have e2 : ys2.map ceP = ys.map ceP ++ [ceP y] := by rw [hy2, List.map_append]; rfl
        have hY2 : ∀ z ∈ ys2, z ∈ cl := by
         intro z hz
         rw [hy2] at hz
         rcases List.mem_append.1 hz with h | h
         ·exact hY z h
         ·rw [List.mem_singleton.1 h]; exact hym
        refine za ?_
        refine zc (t60 (t4 [])) ?_
        refine c_seq ?_
        refine zq 64 ⟨rfl, rfl⟩ ?_
        refine zR 0 qu65 qs3 ?_
        refine s_val (r_load1 qg3 rfl (H.at 1 rfl) (rfl : _ = some (Value.int .i64 y.kind))) ?_
        refine s_val (r_eql rfl rfl) ?_
        refine zc (t60 (t4 [])) ?_
        refine c_if rfl (fun h60 => ?_) (fun h60 => ?_)
        ·refine zq 64 ⟨rfl, rfl⟩ ?_
         refine zm ?_
         refine za ?_
         refine za ?_
         refine zc (t60 (t4 [])) ?_
         refine wp_ret (x_thenRet (x_blockRet (x_thenRet (x_blockRet ?_))))
         refine zw (res2 rfl rfl rfl) ?_
         have hw := hW.full (by rw [List.length_map]; exact hlk) hfd h60
         rw [← e2] at hw
         exact ⟨ys2, _, a5, c5, N4, rfl, hw, hY2, hN5, H.sub (.cons _ (.cons _ (List.Sublist.refl _)))⟩
        ·have hW2 : WayI (findP (cl.map ceP)) (hasH xs) n (ys2.map ceP) y.ref := by
          rw [e2]
          exact hW.on (by rw [List.length_map]; exact hlk) hfd h60
         have h44 : ys2.length ≤ 4 := by have h := hW2.1; rwa [List.length_map] at h
         refine wp_skip ?_
         refine x_thenNormal ?_
         refine c_region (n := 64) ⟨rfl, rfl⟩ ?_
         refine zR 6 qu65 qs28 ?_
         refine s_val (r_load1 qg28 rfl (H.at 1 rfl) (rfl : _ = some (Value.int .u64 y.ref))) ?_
         refine za ?_
         refine zb (t60 (t4 [])) ?_
         refine x_blockNormal ?_
         exact ⟨ys2.length, _, rfl, ⟨_, _, _, _, _, _, _, _, _, _, _, _, _, _, _, _, _, _, _, _, _, _, _, _, _, _, _, _, _, _, _, _, _, _, _, _, _, _, _, _, _, _, _, _, _, _, _, _, _, _, _, _, _, _, _, _, ys2, y.ref, a5, c5, N4, rfl, rfl, h44, hW2, hY2, hN5, (H.sub x00r)⟩, by omega⟩
     ·refine zm ?_
      refine zg ?_
      refine zg ?_
      refine zg ?_
      refine zf ?_
      refine zc (t60 (t4 [])) ?_
      refine c_iff rfl ?_
      refine wp_skip ?_
      refine x_thenNormal ?_
      refine c_seq ?_
      refine zq 64 ⟨rfl, rfl⟩ ?_
      refine zR 0 qu65 qs3 ?_
      refine s_val (r_load1 qg3 rfl (H.at 0 rfl) (rfl : _ = some (Value.int .i64 y.kind))) ?_
      refine s_test (r_neq rfl rfl) (fun h45 => ?_) (fun h45 => ?_)
      ·refine zm ?_
       refine zy ?_
       refine zm ?_
       refine zy ?_
       refine zm ?_
       refine zy ?_
       refine s_call (r_call qc20 (ec rfl en)) (leaf_spec _ _) ?_
       rintro v w ⟨rfl, HC⟩
       replace H := H.quiet HC
       have hlf : lf m = 2 * m := by rw [← hnm]; exact lf_right hy31
       rw [hlf]
       refine zy ?_
       refine s_call (r_call Tryz.call31 (ec rfl (ec rfl en))) (key23_spec ka kc ks (2 * m) hkl _ (hk.st (H.sub (List.nil_sublist _)))) ?_
       rintro v w (⟨j, q, hj, hq, rfl, HC⟩ | ⟨hnk, rfl, HC⟩)
       ·replace H := H.quiet HC
        have hh : hasH xs (2 * m) = true := by rw [← hq]; exact (hK.1 q (List.mem_of_getElem? hj)).1
        refine zy ?_
        refine s_test (r_lss rfl rfl) (fun h51 => ?_) (fun h51 => ?_)
        ·exfalso; omega
        ·refine zv ?_
         refine zc (t60 (t4 [])) ?_
         refine c_iff rfl ?_
         refine wp_skip ?_
         refine x_thenNormal ?_
         refine zq 64 ⟨rfl, rfl⟩ ?_
         refine zm ?_
         refine s_val (zp qg65 qs65 (H.at 0 rfl) (ceC_td _)) ?_
         refine s_new (m_bslice1 (vs := ceC y) H qu22 qs65 qo65 (by omega) (by omega) rfl rfl rfl) ?_
         intro w b56 H
         refine s_any (m_append_row0 (L1 := [_,_]) (N := N) H hR qu22 qu22 (fun _ h => nomatch h) qs65 qo65 rfl Tryz.typeInfo65 (by rw [bytes65]; omega) (by rw [bytes65]; omega) (ec rfl (ec rfl en)) (Src.slice (vs := ceC y) (H.at 0 rfl) rfl rfl (ceC_one _))) ?_
         rintro v w ⟨a5, c5, N4, rfl, hN4, H⟩
         replace H : St w0 [] w (_ :: _ :: N4) := H
         have hlk : lookF (findP (cl.map ceP)) (hasH xs) ys.length m = 0 := by rw [look_some hfd, if_neg (show ¬ momK (ceP y).kind = false from fun h => absurd (hmo.symm.trans h) (by decide)), if_neg (show ¬ ¬ rightC (ceP y) from fun h => h hy31), if_neg (show ¬ ((ceP y).kind ≠ 1 ∧ ys.length = 4) from fun h => h36 h.1), if_neg (show ¬ ((ceP y).kind ≠ 2 ∧ hasH xs (2 * m) = false) from fun h => absurd (hh.symm.trans h.2) (by decide))]
         obtain ⟨ys2, hy2⟩ : ∃ ys2, ys2 = ys ++ [y] := ⟨_, rfl⟩
         have hll : ys2.length = ys.length + 1 := by rw [hy2, List.length_append]; rfl
         rw [← hll] at hN4 ⊢
         have hN5 : RowN 11 65 (rowC ceC ys2) ys2.length a5 c5 N4 := by rw [hy2, rowC_append, rowC_one1, ← hy2]; exact hN4
         have e2 : ys2.map ceP = ys.map ceP ++ [ceP y] := by rw [hy2, List.map_append]; rfl
         have hY2 : ∀ z ∈ ys2, z ∈ cl := by
          intro z hz
          rw [hy2] at hz
          rcases List.mem_append.1 hz with h | h
          ·exact hY z h
          ·rw [List.mem_singleton.1 h]; exact hym
         refine za ?_
         refine zc (t60 (t4 [])) ?_
         refine c_seq ?_
         refine zq 64 ⟨rfl, rfl⟩ ?_
         refine zR 0 qu65 qs3 ?_
         refine s_val (r_load1 qg3 rfl (H.at 1 rfl) (rfl : _ = some (Value.int .i64 y.kind))) ?_
         refine s_val (r_eql rfl rfl) ?_
         refine zc (t60 (t4 [])) ?_
         refine c_if rfl (fun h60 => ?_) (fun h60 => ?_)
         ·refine zq 64 ⟨rfl, rfl⟩ ?_
          refine zm ?_
          refine za ?_
          refine za ?_
          refine zc (t60 (t4 [])) ?_
          refine wp_ret (x_thenRet (x_blockRet (x_thenRet (x_blockRet ?_))))
          refine zw (res2 rfl rfl rfl) ?_
          have hw := hW.full (by rw [List.length_map]; exact hlk) hfd h60
          rw [← e2] at hw
          exact ⟨ys2, _, a5, c5, N4, rfl, hw, hY2, hN5, H.sub (.cons _ (.cons _ (List.Sublist.refl _)))⟩
         ·have hW2 : WayI (findP (cl.map ceP)) (hasH xs) n (ys2.map ceP) y.ref := by
           rw [e2]
           exact hW.on (by rw [List.length_map]; exact hlk) hfd h60
          have h44 : ys2.length ≤ 4 := by have h := hW2.1; rwa [List.length_map] at h
          refine wp_skip ?_
          refine x_thenNormal ?_
          refine c_region (n := 64) ⟨rfl, rfl⟩ ?_
          refine zR 6 qu65 qs28 ?_
          refine s_val (r_load1 qg28 rfl (H.at 1 rfl) (rfl : _ = some (Value.int .u64 y.ref))) ?_
          refine za ?_
          refine zb (t60 (t4 [])) ?_
          refine x_blockNormal ?_
          exact ⟨ys2.length, _, rfl, ⟨_, _, _, _, _, _, _, _, _, _, _, _, _, _, _, _, _, _, _, _, _, _, _, _, _, _, _, _, _, _, _, _, _, _, _, _, _, _, _, _, _, _, _, _, _, _, _, _, _, _, _, _, _, _, _, _, ys2, y.ref, a5, c5, N4, rfl, rfl, h44, hW2, hY2, hN5, (H.sub x00r)⟩, by omega⟩
       ·replace H := H.quiet HC
        have hh := ksA_no hK hym (by rw [hnm, hlf]) hnk
        refine zy ?_
        refine s_test (r_lss rfl rfl) (fun h51 => ?_) (fun h51 => ?_)
        ·refine zv ?_
         refine zc (t60 (t4 [])) ?_
         refine c_ift rfl ?_
         refine zq 64 ⟨rfl, rfl⟩ ?_
         refine zm ?_
         refine za ?_
         refine za ?_
         refine zc (t60 (t4 [])) ?_
         refine wp_ret (x_thenRet (x_blockRet (x_thenRet (x_blockRet ?_))))
         refine zw (res2 rfl rfl rfl) ?_
         have hlk : lookF (findP (cl.map ceP)) (hasH xs) ys.length m = 10 := by rw [look_some hfd, if_neg (show ¬ momK (ceP y).kind = false from fun h => absurd (hmo.symm.trans h) (by decide)), if_neg (show ¬ ¬ rightC (ceP y) from fun h => h hy31), if_neg (show ¬ ((ceP y).kind ≠ 1 ∧ ys.length = 4) from fun h => h36 h.1), if_pos ⟨h45, hh⟩]
         have hw := hW.bad (by rw [List.length_map, hlk]; decide)
         rw [List.length_map, hlk] at hw
         exact ⟨ys, _, a2, c2, N, rfl, hw, hY, hR, H.sub (.cons _ (List.Sublist.refl _))⟩
        ·exfalso; omega
      ·refine zm ?_
       refine zg ?_
       refine zg ?_
       refine zg ?_
       refine zg ?_
       refine zg ?_
       refine zf ?_
       refine zc (t60 (t4 [])) ?_
       refine c_iff rfl ?_
       refine wp_skip ?_
       refine x_thenNormal ?_
       refine zq 64 ⟨rfl, rfl⟩ ?_
       refine zm ?_
       refine s_val (zp qg65 qs65 (H.at 0 rfl) (ceC_td _)) ?_
       refine s_new (m_bslice1 (vs := ceC y) H qu22 qs65 qo65 (by omega) (by omega) rfl rfl rfl) ?_
       intro w b56 H
       refine s_any (m_append_row0 (L1 := [_,_]) (N := N) H hR qu22 qu22 (fun _ h => nomatch h) qs65 qo65 rfl Tryz.typeInfo65 (by rw [bytes65]; omega) (by rw [bytes65]; omega) (ec rfl (ec rfl en)) (Src.slice (vs := ceC y) (H.at 0 rfl) rfl rfl (ceC_one _))) ?_
       rintro v w ⟨a5, c5, N4, rfl, hN4, H⟩
       replace H : St w0 [] w (_ :: _ :: N4) := H
       have hlk : lookF (findP (cl.map ceP)) (hasH xs) ys.length m = 0 := by rw [look_some hfd, if_neg (show ¬ momK (ceP y).kind = false from fun h => absurd (hmo.symm.trans h) (by decide)), if_neg (show ¬ ¬ rightC (ceP y) from fun h => h hy31), if_neg (show ¬ ((ceP y).kind ≠ 1 ∧ ys.length = 4) from fun h => h36 h.1), if_neg (show ¬ ((ceP y).kind ≠ 2 ∧ hasH xs (2 * m) = false) from fun h => h45 h.1)]
       obtain ⟨ys2, hy2⟩ : ∃ ys2, ys2 = ys ++ [y] := ⟨_, rfl⟩
       have hll : ys2.length = ys.length + 1 := by rw [hy2, List.length_append]; rfl
       rw [← hll] at hN4 ⊢
       have hN5 : RowN 11 65 (rowC ceC ys2) ys2.length a5 c5 N4 := by rw [hy2, rowC_append, rowC_one1, ← hy2]; exact hN4
       have e2 : ys2.map ceP = ys.map ceP ++ [ceP y] := by rw [hy2, List.map_append]; rfl
       have hY2 : ∀ z ∈ ys2, z ∈ cl := by
        intro z hz
        rw [hy2] at hz
        rcases List.mem_append.1 hz with h | h
        ·exact hY z h
        ·rw [List.mem_singleton.1 h]; exact hym
       refine za ?_
       refine zc (t60 (t4 [])) ?_
       refine c_seq ?_
       refine zq 64 ⟨rfl, rfl⟩ ?_
       refine zR 0 qu65 qs3 ?_
       refine s_val (r_load1 qg3 rfl (H.at 1 rfl) (rfl : _ = some (Value.int .i64 y.kind))) ?_
       refine s_val (r_eql rfl rfl) ?_
       refine zc (t60 (t4 [])) ?_
       refine c_if rfl (fun h60 => ?_) (fun h60 => ?_)
       ·refine zq 64 ⟨rfl, rfl⟩ ?_
        refine zm ?_
        refine za ?_
        refine za ?_
        refine zc (t60 (t4 [])) ?_
        refine wp_ret (x_thenRet (x_blockRet (x_thenRet (x_blockRet ?_))))
        refine zw (res2 rfl rfl rfl) ?_
        have hw := hW.full (by rw [List.length_map]; exact hlk) hfd h60
        rw [← e2] at hw
        exact ⟨ys2, _, a5, c5, N4, rfl, hw, hY2, hN5, H.sub (.cons _ (.cons _ (List.Sublist.refl _)))⟩
       ·have hW2 : WayI (findP (cl.map ceP)) (hasH xs) n (ys2.map ceP) y.ref := by
         rw [e2]
         exact hW.on (by rw [List.length_map]; exact hlk) hfd h60
        have h44 : ys2.length ≤ 4 := by have h := hW2.1; rwa [List.length_map] at h
        refine wp_skip ?_
        refine x_thenNormal ?_
        refine c_region (n := 64) ⟨rfl, rfl⟩ ?_
        refine zR 6 qu65 qs28 ?_
        refine s_val (r_load1 qg28 rfl (H.at 1 rfl) (rfl : _ = some (Value.int .u64 y.ref))) ?_
        refine za ?_
        refine zb (t60 (t4 [])) ?_
        refine x_blockNormal ?_
        exact ⟨ys2.length, _, rfl, ⟨_, _, _, _, _, _, _, _, _, _, _, _, _, _, _, _, _, _, _, _, _, _, _, _, _, _, _, _, _, _, _, _, _, _, _, _, _, _, _, _, _, _, _, _, _, _, _, _, _, _, _, _, _, _, _, _, ys2, y.ref, a5, c5, N4, rfl, rfl, h44, hW2, hY2, hN5, (H.sub x00r)⟩, by omega⟩
    ·replace H := H.quiet HC
     refine s_val (r_not rfl) ?_
     refine zc (t60 (t4 [])) ?_
     refine c_ift rfl ?_
     refine zq 64 ⟨rfl, rfl⟩ ?_
     refine zm ?_
     refine za ?_
     refine za ?_
     refine zc (t60 (t4 [])) ?_
     refine wp_ret (x_thenRet (x_blockRet (x_thenRet (x_blockRet ?_))))
     refine zw (res2 rfl rfl rfl) ?_
     have hlk : lookF (findP (cl.map ceP)) (hasH xs) ys.length m = 3 := by rw [look_some hfd, if_neg (show ¬ momK (ceP y).kind = false from fun h => absurd (hmo.symm.trans h) (by decide))]; exact if_pos hy31
     have hw := hW.bad (by rw [List.length_map, hlk]; decide)
     rw [List.length_map, hlk] at hw
     exact ⟨ys, _, a2, c2, N, rfl, hw, hY, hR, H.sub (.cons _ (List.Sublist.refl _))⟩
 ·replace H := H.quiet HC
  refine za ?_
  refine zc (t60 (t4 [])) ?_
  refine c_seq ?_
  refine zq 64 ⟨rfl, rfl⟩ ?_
  refine zm ?_
  refine s_test (r_lss rfl rfl) (fun h16 => ?_) (fun h16 => ?_)
  ·refine zm ?_
   refine zg ?_
   refine zg ?_
   refine zg ?_
   refine zg ?_
   refine zg ?_
   refine zg ?_
   refine zv ?_
   refine zc (t60 (t4 [])) ?_
   refine c_ift rfl ?_
   refine zq 64 ⟨rfl, rfl⟩ ?_
   refine zm ?_
   refine za ?_
   refine za ?_
   refine zc (t60 (t4 [])) ?_
   refine wp_ret (x_thenRet (x_blockRet (x_thenRet (x_blockRet ?_))))
   refine zw (res2 rfl rfl rfl) ?_
   have hlk : lookF (findP (cl.map ceP)) (hasH xs) ys.length m = 4 := look_none hfd
   have hw := hW.bad (by rw [List.length_map, hlk]; decide)
   rw [List.length_map, hlk] at hw
   exact ⟨ys, _, a2, c2, N, rfl, hw, hY, hR, H.sub (List.Sublist.refl _)⟩
  ·exfalso; omega

end Go.Proofs.YtobfnieebiakeaaGreat

