import Derived.Test.YtobfnieebiakeaaPM
import Derived.Test.YtobfnieebiakeaaPY0
namespace Go.Proofs.Ytobfnieebiakeaa
open Go Go.Er

set_option maxHeartbeats 4000000 in
theorem isort_specu (b n cap : Nat) (ys : List Int) (sp : List Value) (a z : Nat) (hnl : n = ys.length) (haz : a ≤ z) (he : z ≤ ys.length) (hl : ys.length ≤ 1000000) (w0 : World) (hown : Go.Er.Own w0 [(b, .cells (uC ys ++ sp).toArray 28 (0, 0))]) :
  Calls Try.prog 90 #[.slice (some ⟨b, 0, none⟩) n cap, .int .i64 (a : Nat), .int .i64 (z : Nat)] w0 fun e w => ∃ v, e = .returned v ∧ (v = .tuple #[] ∧ ∃ zs, Sw 0 a z ys zs ∧ Srt 0 id a z zs ∧ St w0 [b] w [(b, .cells (uC zs ++ sp).toArray 28 (0, 0))]) := by
 have H : St w0 [b] w0 [(b, .cells (uC ys ++ sp).toArray 28 (0, 0))] := hown.st
 refine c_enter (args := [.slice (some ⟨b, 0, none⟩) n cap, .int .i64 (a : Nat), .int .i64 (z : Nat)]) (l := t40 (t9 [])) Try.func90 Try.ntmps90 rfl rfl ?_
 refine zq 49 ⟨rfl, rfl⟩ ?_
 refine zm ?_
 refine zj ?_
 refine za ?_
 refine zc (t40 (t9 [])) ?_
 refine wp_block ?_
 refine c_loop (fun (l0 : List Value) (i : Nat) (l : List Value) (w : World) => ∃ (u7 u10 u11 u12 u13 u14 u15 u16 u17 u18 u19 u20 u21 u22 u23 u24 u25 u26 u27 u28 u29 u30 u31 u32 u33 u34 u35 u36 u37 u38 u39 u40 u41 u42 u43 u44 u45 u46 u47 u48 : Value) (zs : List Int), l = ovr l0 [N_, N_, N_, N_, N_, N_, Y_ (.int .i64 i), Y_ u7, N_, N_, Y_ u10, Y_ u11, Y_ u12, Y_ u13, Y_ u14, Y_ u15, Y_ u16, Y_ u17, Y_ u18, Y_ u19, Y_ u20, Y_ u21, Y_ u22, Y_ u23, Y_ u24, Y_ u25, Y_ u26, Y_ u27, Y_ u28, Y_ u29, Y_ u30, Y_ u31, Y_ u32, Y_ u33, Y_ u34, Y_ u35, Y_ u36, Y_ u37, Y_ u38, Y_ u39, Y_ u40, Y_ u41, Y_ u42, Y_ u43, Y_ u44, Y_ u45, Y_ u46, Y_ u47, Y_ u48] ∧ a < i ∧ (i ≤ z ∨ i = a + 1) ∧ Sw 0 a z ys zs ∧ Srt 0 id a i zs ∧ St w0 [b] w [(b, .cells (uC zs ++ sp).toArray 28 (0, 0))]) (fun (i : Nat) => z - i) (a + 1) ⟨_, _, _, _, _, _, _, _, _, _, _, _, _, _, _, _, _, _, _, _, _, _, _, _, _, _, _, _, _, _, _, _, _, _, _, _, _, _, _, _, _, rfl, by omega, .inr rfl, .refl, (fun p q _ _ _ => by omega), H⟩ ?_
 intro i l w ⟨u7, u10, u11, u12, u13, u14, u15, u16, u17, u18, u19, u20, u21, u22, u23, u24, u25, u26, u27, u28, u29, u30, u31, u32, u33, u34, u35, u36, u37, u38, u39, u40, u41, u42, u43, u44, u45, u46, u47, u48, zs, hl, hai, hie, hsw, hs, H⟩
 obtain rfl := hl.trans (rfl : _ = t40 (t9 []))
 clear hl
 have hlen := hsw.length
 refine c_seq ?_
 refine zq 49 ⟨rfl, rfl⟩ ?_
 refine zm ?_
 refine zm ?_
 refine s_val (r_lss rfl rfl) ?_
 refine zc (t40 (t9 [])) ?_
 refine c_if rfl (fun h12 => ?_) (fun h12 => ?_)
 ·refine wp_skip ?_
  refine x_thenNormal ?_
  refine c_seq ?_
  refine wp_block ?_
  refine zq 49 ⟨rfl, rfl⟩ ?_
  refine zm ?_
  refine za ?_
  refine zc (t40 (t9 [])) ?_
  refine wp_block ?_
  refine c_loop (fun (l0 : List Value) (j : Nat) (l : List Value) (w : World) => ∃ (u16 u17 u18 u19 u20 u21 u22 u23 u24 u25 u26 u27 u28 u29 u30 u31 u32 u33 u34 u35 u36 u37 u38 u39 u40 u41 u42 u43 u44 u45 u46 u47 u48 : Value) (zs : List Int), l = ovr l0 [N_, N_, N_, N_, N_, N_, N_, Y_ (.int .i64 j), N_, N_, N_, N_, N_, N_, N_, N_, Y_ u16, Y_ u17, Y_ u18, Y_ u19, Y_ u20, Y_ u21, Y_ u22, Y_ u23, Y_ u24, Y_ u25, Y_ u26, Y_ u27, Y_ u28, Y_ u29, Y_ u30, Y_ u31, Y_ u32, Y_ u33, Y_ u34, Y_ u35, Y_ u36, Y_ u37, Y_ u38, Y_ u39, Y_ u40, Y_ u41, Y_ u42, Y_ u43, Y_ u44, Y_ u45, Y_ u46, Y_ u47, Y_ u48] ∧ a ≤ j ∧ j ≤ i ∧ Sw 0 a z ys zs ∧ Ins 0 id a i j zs ∧ St w0 [b] w [(b, .cells (uC zs ++ sp).toArray 28 (0, 0))]) (fun (j : Nat) => j) i ⟨_, _, _, _, _, _, _, _, _, _, _, _, _, _, _, _, _, _, _, _, _, _, _, _, _, _, _, _, _, _, _, _, _, _, rfl, by omega, by omega, hsw, (Ins.start hs), H⟩ ?_
  intro j l w ⟨u16, u17, u18, u19, u20, u21, u22, u23, u24, u25, u26, u27, u28, u29, u30, u31, u32, u33, u34, u35, u36, u37, u38, u39, u40, u41, u42, u43, u44, u45, u46, u47, u48, zs, hl, haj, hji, hsw, hin, H⟩
  obtain rfl := hl.trans (rfl : _ = t40 (t9 []))
  clear hl
  have hlen := hsw.length
  refine c_seq ?_
  refine c_seq ?_
  refine d_begin (sz := 49) ⟨rfl, rfl⟩ (by kernel_rfl) H (H) rfl ?_
  intro w H
  refine zM 0 H ?_
  refine zM 1 H ?_
  refine zd 2 rfl (by kernel_rfl) (fun _ _ _ h => h) H (r_gtr rfl rfl) rfl ?_
  refine d_part (fun h18 => ?_) (fun h18 => ?_)
  ·refine zM 3 H ?_
   refine zG 4 rfl rfl rfl (by kernel_rfl) (fun _ _ _ h => h) H (r_move rfl) rfl ?_
   refine zG 5 rfl rfl rfl (by kernel_rfl) (fun _ _ _ h => h) H (r_move rfl) rfl ?_
   refine zG 6 rfl rfl rfl (by kernel_rfl) (fun _ _ _ h => h) H (ziS qu25 qs28) rfl ?_
   refine zGh 7 rfl rfl rfl (by kernel_rfl) (fun _ _ _ h => h) H (fun HS => r_load1 qg28 rfl (HS.at 0 rfl) (u_get0 (i := j) (by omega) (by omega))) rfl ?_
   refine zG 8 rfl rfl rfl (by kernel_rfl) (fun _ _ _ h => h) H (r_move rfl) rfl ?_
   refine zG 9 rfl rfl rfl (by kernel_rfl) (fun _ _ _ h => h) H (r_move rfl) rfl ?_
   refine zG 10 rfl rfl rfl (by kernel_rfl) (fun _ _ _ h => h) H (r_sub rfl rfl (wr (r := ((j - 1 : Nat) : Int)))) rfl ?_
   refine zG 11 rfl rfl rfl (by kernel_rfl) (fun _ _ _ h => h) H (ziS qu25 qs28) rfl ?_
   refine zGh 12 rfl rfl rfl (by kernel_rfl) (fun _ _ _ h => h) H (fun HS => r_load1 qg28 rfl (HS.at 0 rfl) (u_get0 (i := j - 1) (by omega) (by omega))) rfl ?_
   refine zl1 13 ?_
   refine b_call rfl (go_some rfl rfl) (r_call qc96 (ec rfl (ec rfl en))) (less_spec _ _ _) rfl ?_
   rintro v w ⟨rfl, HC⟩
   replace H := H.quiet HC
   refine ⟨H, ?_⟩
   refine zd 14 rfl (by kernel_rfl) (fun _ _ _ h => h) H (r_pickt rfl rfl) rfl ?_
   refine zz (t40 (t9 [])) ?_
   refine x_thenNormal ?_
   refine c_if rfl (fun h30 => ?_) (fun h30 => ?_)
   ·have hcm34 := h30
    refine wp_skip ?_
    refine x_thenNormal ?_
    refine c_seq ?_
    refine wp_block ?_
    refine d_begin (sz := 49) ⟨rfl, rfl⟩ (by kernel_rfl) H (H.sub x0n) rfl ?_
    intro w H
    refine zM 0 (H.sub x0n) ?_
    refine zM 1 (H.sub x0n) ?_
    refine zM 2 (H.sub x0n) ?_
    refine zM 3 (H.sub x0n) ?_
    refine zd 4 rfl (by kernel_rfl) (fun _ _ _ h => h) (H.sub x0n) (r_sub rfl rfl (wr (r := ((j - 1 : Nat) : Int)))) rfl ?_
    refine zM 5 (H.sub x0n) ?_
    refine zM 6 (H.sub x0n) ?_
    refine zd 7 rfl (by kernel_rfl) (fun _ _ _ h => h) (H.sub x0n) (r_sub rfl rfl (wr (r := ((j - 1 : Nat) : Int)))) rfl ?_
    refine zd 8 rfl (by kernel_rfl) (fun _ _ _ h => h) (H.sub x0n) (ziS qu25 qs28) rfl ?_
    refine zM 10 (H.sub x0n) ?_
    refine zM 11 (H.sub x0n) ?_
    refine zd 12 rfl (by kernel_rfl) (fun _ _ _ h => h) (H.sub x0n) (ziS qu25 qs28) rfl ?_
    refine zl2 9 13 ?_ ?_
    ·refine b_val rfl go_none (r_load1 qg28 rfl (H.at 0 rfl) (u_get0 (i := j - 1) (by omega) (by omega))) rfl (H.sub x0n) ?_
     refine zl1 13 ?_
     refine b_val rfl go_none (r_load1 qg28 rfl (H.at 0 rfl) (u_get0 (i := j) (by omega) (by omega))) rfl (H.sub x0n) ?_
     refine zd 14 rfl (by kernel_rfl) (fun _ _ _ h => h) (H.sub x0n) (ziS qu25 qs28) rfl ?_
     refine zl1 15 ?_
     refine b_st rfl go_none (m_store1 H 0 qs28 rfl rfl rfl rfl (by rw [List.length_append, uC_length]; omega) (uC_setA0 _ sp (j) _ (by omega) (by omega))) (L' := [_]) rfl rfl (fun _ H => (H.sub x0n)) ?_
     intro w H
     refine zd 16 rfl (by kernel_rfl) (fun _ _ _ h => h) (H.sub x0n) (ziS qu25 qs28) rfl ?_
     refine zl1 17 ?_
     refine b_st rfl go_none (m_store1 H 0 qs28 rfl rfl rfl rfl (by rw [List.length_append, uC_length, List.length_set]; omega) (uC_setA0 _ sp (j - 1) _ (by rw [List.length_set]; omega) (by omega))) (L' := [_]) rfl rfl (fun _ H => (H.sub x0n)) ?_
     intro w H
     refine zz (t40 (t9 [])) ?_
     refine x_blockNormal ?_
     refine x_thenNormal ?_
     refine c_region (n := 49) ⟨rfl, rfl⟩ ?_
     refine zm ?_
     refine s_val (r_sub rfl rfl (wr (r := ((j - 1 : Nat) : Int)))) ?_
     refine za ?_
     refine zb (t40 (t9 [])) ?_
     exact ⟨j - 1, _, rfl, ⟨_, _, _, _, _, _, _, _, _, _, _, _, _, _, _, _, _, _, _, _, _, _, _, _, _, _, _, _, _, _, _, _, _, swp2 0 zs j (j - 1), rfl, by omega, by omega, (.step j (j - 1) hsw ⟨by omega, by omega⟩ ⟨by omega, by omega⟩ he), (hin.step (by omega) hji (by omega) hcm34), H⟩, by omega⟩
    ·refine b_val rfl go_none (r_load1 qg28 rfl (H.at 0 rfl) (u_get0 (i := j) (by omega) (by omega))) rfl (H.sub x0n) ?_
     refine zl1 9 ?_
     refine b_val rfl go_none (r_load1 qg28 rfl (H.at 0 rfl) (u_get0 (i := j - 1) (by omega) (by omega))) rfl (H.sub x0n) ?_
     refine zd 14 rfl (by kernel_rfl) (fun _ _ _ h => h) (H.sub x0n) (ziS qu25 qs28) rfl ?_
     refine zl1 15 ?_
     refine b_st rfl go_none (m_store1 H 0 qs28 rfl rfl rfl rfl (by rw [List.length_append, uC_length]; omega) (uC_setA0 _ sp (j) _ (by omega) (by omega))) (L' := [_]) rfl rfl (fun _ H => (H.sub x0n)) ?_
     intro w H
     refine zd 16 rfl (by kernel_rfl) (fun _ _ _ h => h) (H.sub x0n) (ziS qu25 qs28) rfl ?_
     refine zl1 17 ?_
     refine b_st rfl go_none (m_store1 H 0 qs28 rfl rfl rfl rfl (by rw [List.length_append, uC_length, List.length_set]; omega) (uC_setA0 _ sp (j - 1) _ (by rw [List.length_set]; omega) (by omega))) (L' := [_]) rfl rfl (fun _ H => (H.sub x0n)) ?_
     intro w H
     refine zz (t40 (t9 [])) ?_
     refine x_blockNormal ?_
     refine x_thenNormal ?_
     refine c_region (n := 49) ⟨rfl, rfl⟩ ?_
     refine zm ?_
     refine s_val (r_sub rfl rfl (wr (r := ((j - 1 : Nat) : Int)))) ?_
     refine za ?_
     refine zb (t40 (t9 [])) ?_
     exact ⟨j - 1, _, rfl, ⟨_, _, _, _, _, _, _, _, _, _, _, _, _, _, _, _, _, _, _, _, _, _, _, _, _, _, _, _, _, _, _, _, _, swp2 0 zs j (j - 1), rfl, by omega, by omega, (.step j (j - 1) hsw ⟨by omega, by omega⟩ ⟨by omega, by omega⟩ he), (hin.step (by omega) hji (by omega) hcm34), H⟩, by omega⟩
   ·have hcm34 := h30
    refine wp_exit (x_thenExit (x_thenExit (x_blockHit ?_)))
    refine x_blockNormal ?_
    refine x_thenNormal ?_
    refine c_region (n := 49) ⟨rfl, rfl⟩ ?_
    refine zm ?_
    refine zj ?_
    refine za ?_
    refine zb (t40 (t9 [])) ?_
    exact ⟨i + 1, _, rfl, ⟨_, _, _, _, _, _, _, _, _, _, _, _, _, _, _, _, _, _, _, _, _, _, _, _, _, _, _, _, _, _, _, _, _, _, _, _, _, _, _, _, _, rfl, by omega, .inl (by omega), hsw, (hin.fin (by omega) (fun _ => hcm34)), H⟩, by omega⟩
  ·refine zM 3 H ?_
   refine zN 4 H ?_
   refine zN 5 H ?_
   refine zN 6 H ?_
   refine zN 7 H ?_
   refine zN 8 H ?_
   refine zN 9 H ?_
   refine zN 10 H ?_
   refine zN 11 H ?_
   refine zN 12 H ?_
   refine zN 13 H ?_
   refine zd 14 rfl (by kernel_rfl) (fun _ _ _ h => h) H (r_pickf rfl rfl) rfl ?_
   refine zz (t40 (t9 [])) ?_
   refine x_thenNormal ?_
   refine c_iff rfl ?_
   refine wp_exit (x_thenExit (x_thenExit (x_blockHit ?_)))
   refine x_blockNormal ?_
   refine x_thenNormal ?_
   refine c_region (n := 49) ⟨rfl, rfl⟩ ?_
   refine zm ?_
   refine zj ?_
   refine za ?_
   refine zb (t40 (t9 [])) ?_
   exact ⟨i + 1, _, rfl, ⟨_, _, _, _, _, _, _, _, _, _, _, _, _, _, _, _, _, _, _, _, _, _, _, _, _, _, _, _, _, _, _, _, _, _, _, _, _, _, _, _, _, rfl, by omega, .inl (by omega), hsw, (hin.fin (by omega) (fun h => by omega)), H⟩, by omega⟩
 ·refine wp_exit (x_thenExit (x_thenExit (x_blockHit ?_)))
  refine e_end (res0 rfl) ⟨_, rfl, ?_⟩
  exact ⟨rfl, _, hsw, fun p q h1 h2 h3 => hs p q h1 h2 (by omega), H⟩

set_option maxHeartbeats 4000000 in
theorem brk_specu (b n cap : Nat) (ys : List Int) (sp : List Value) (a z : Nat) (hnl : n = ys.length) (haz : a ≤ z) (he : z ≤ ys.length) (hl : ys.length ≤ 1000000) (h15 : z - a < 256) (w0 : World) (hown : Go.Er.Own w0 [(b, .cells (uC ys ++ sp).toArray 28 (0, 0))]) :
  Calls Try.prog 92 #[.slice (some ⟨b, 0, none⟩) n cap, .int .i64 (a : Nat), .int .i64 (z : Nat)] w0 fun e w => ∃ v, e = .returned v ∧ (v = .tuple #[] ∧ ∃ zs, Sw 0 a z ys zs ∧ St w0 [b] w [(b, .cells (uC zs ++ sp).toArray 28 (0, 0))]) := by
 have H : St w0 [b] w0 [(b, .cells (uC ys ++ sp).toArray 28 (0, 0))] := hown.st
 refine c_enter (args := [.slice (some ⟨b, 0, none⟩) n cap, .int .i64 (a : Nat), .int .i64 (z : Nat)]) (l := t60 (t5 [])) Try.func92 Try.ntmps92 rfl rfl ?_
 refine zq 65 ⟨rfl, rfl⟩ ?_
 refine zm ?_
 refine zm ?_
 refine s_val (r_sub rfl rfl (wr (r := ((z - a : Nat) : Int)))) ?_
 refine za ?_
 refine zc (t60 (t5 [])) ?_
 refine zq 65 ⟨rfl, rfl⟩ ?_
 refine zm ?_
 refine s_val (r_geq rfl rfl) ?_
 refine zc (t60 (t5 [])) ?_
 refine c_if rfl (fun h15 => ?_) (fun h15 => ?_)
 ·refine zq 65 ⟨rfl, rfl⟩ ?_
  refine zm ?_
  refine s_val (r_conv qu3 Try.runUnderlying140 rfl v6) ?_
  skip
  refine s_new (zA [.int .u64 0] H Try.zeroValue140) ?_
  intro w b7 H
  refine s_st (m_store1 H 0 qs140 rfl rfl rfl rfl (by first | exact (by rw [kC_length]; omega) | exact (by rw [hC_length]; omega) | exact (by simp)) rfl) (L' := [_,_]) rfl ?_
  intro w H
  refine zc (t60 (t5 [])) ?_
  refine zq 65 ⟨rfl, rfl⟩ ?_
  refine zm ?_
  refine s_call (r_call Try.call85 (ec rfl en)) (npowg_spec _ (by omega) (by omega) _) ?_
  rintro v w ⟨c, hc1, hc2, rfl, HC⟩
  replace H := H.quiet HC
  refine za ?_
  refine zc (t60 (t5 [])) ?_
  refine zq 65 ⟨rfl, rfl⟩ ?_
  refine zm ?_
  refine zm ?_
  refine s_val (r_quo rfl rfl (by omega) (quoI (by omega) (by omega) (by omega))) ?_
  refine s_val (r_mul rfl rfl w6) ?_
  refine zj ?_
  refine s_val (r_sub rfl rfl (wr (r := ((a + (z - a) / 4 * 2 - 1 : Nat) : Int)))) ?_
  refine za ?_
  refine zc (t60 (t5 [])) ?_
  refine wp_block ?_
  refine c_loop (fun (l0 : List Value) (i : Nat) (l : List Value) (w : World) => ∃ (u10 u26 u27 u28 u29 u30 u31 u32 u33 u34 u35 u36 u37 u38 u39 u40 u41 u42 u43 u44 u45 u46 u47 u48 u49 u50 u51 u52 u53 u54 u55 u56 u57 u58 u59 u60 u61 u62 u63 u64 : Value) (n : Nat) (zs : List Int), l = ovr l0 [N_, N_, N_, N_, N_, N_, N_, N_, N_, Y_ (.int .i64 i), Y_ u10, N_, N_, N_, N_, N_, N_, N_, N_, N_, N_, N_, N_, N_, N_, N_, Y_ u26, Y_ u27, Y_ u28, Y_ u29, Y_ u30, Y_ u31, Y_ u32, Y_ u33, Y_ u34, Y_ u35, Y_ u36, Y_ u37, Y_ u38, Y_ u39, Y_ u40, Y_ u41, Y_ u42, Y_ u43, Y_ u44, Y_ u45, Y_ u46, Y_ u47, Y_ u48, Y_ u49, Y_ u50, Y_ u51, Y_ u52, Y_ u53, Y_ u54, Y_ u55, Y_ u56, Y_ u57, Y_ u58, Y_ u59, Y_ u60, Y_ u61, Y_ u62, Y_ u63, Y_ u64] ∧ a + (z - a) / 4 * 2 - 1 ≤ i ∧ i ≤ a + (z - a) / 4 * 2 + 2 ∧ Sw 0 a z ys zs ∧ St w0 [b] w [(b7, .cells [.int .u64 (n : Nat)].toArray 140 (0, 0)), (b, .cells (uC zs ++ sp).toArray 28 (0, 0))]) (fun (i : Nat) => a + (z - a) / 4 * 2 + 2 - i) (a + (z - a) / 4 * 2 - 1) ⟨_, _, _, _, _, _, _, _, _, _, _, _, _, _, _, _, _, _, _, _, _, _, _, _, _, _, _, _, _, _, _, _, _, _, _, _, _, _, _, _, _, ys, rfl, by omega, by omega, .refl, H⟩ ?_
  intro i l w ⟨u10, u26, u27, u28, u29, u30, u31, u32, u33, u34, u35, u36, u37, u38, u39, u40, u41, u42, u43, u44, u45, u46, u47, u48, u49, u50, u51, u52, u53, u54, u55, u56, u57, u58, u59, u60, u61, u62, u63, u64, n, zs, hl, hi0, hi1, hsw, H⟩
  obtain rfl := hl.trans (rfl : _ = t60 (t5 []))
  clear hl
  have hlen := hsw.length
  refine c_seq ?_
  refine zq 65 ⟨rfl, rfl⟩ ?_
  refine zm ?_
  refine zm ?_
  refine zm ?_
  refine s_val (r_quo rfl rfl (by omega) (quoI (by omega) (by omega) (by omega))) ?_
  refine s_val (r_mul rfl rfl w6) ?_
  refine zj ?_
  refine zj ?_
  refine s_val (r_leq rfl rfl) ?_
  refine zc (t60 (t5 [])) ?_
  refine c_if rfl (fun h33 => ?_) (fun h33 => ?_)
  ·refine wp_skip ?_
   refine x_thenNormal ?_
   refine c_seq ?_
   refine wp_block ?_
   refine zq 65 ⟨rfl, rfl⟩ ?_
   refine s_call (r_call Try.call86 (ec rfl en)) (xsn_spec _ _ _ H.owns0) ?_
   rintro v w ⟨n2, hn2, rfl, HC⟩
   replace H := St.call (F := [_]) (L := [_]) H HC
   refine zm ?_
   refine s_val (r_sub rfl rfl (w_u64e (r := ((2 ^ c - 1 : Nat) : Int)) (by omega) (by omega) (by omega))) ?_
   obtain ⟨o, ho, hole⟩ := and_mask (n := n2) (k := c) hn2 (by omega)
   refine s_val (r_and rfl rfl ho) ?_
   refine s_val (r_conv qu102 qu3 rfl w6) ?_
   refine za ?_
   refine zc (t60 (t5 [])) ?_
   refine c_cut (fun (l0 : List Value) (l : List Value) (w : World) => ∃ (u41 u42 u43 u44 u45 u46 : Value) (o2 : Nat), l = ovr l0 [N_, N_, N_, N_, N_, N_, N_, N_, N_, N_, Y_ (.int .i64 o2), N_, N_, N_, N_, N_, N_, N_, N_, N_, N_, N_, N_, N_, N_, N_, N_, N_, N_, N_, N_, N_, N_, N_, N_, N_, N_, N_, N_, N_, N_, Y_ u41, Y_ u42, Y_ u43, Y_ u44, Y_ u45, Y_ u46] ∧ a + o2 < z ∧ St w0 [b] w [(b7, .cells [.int .u64 (n2 : Nat)].toArray 140 (0, 0)), (b, .cells (uC zs ++ sp).toArray 28 (0, 0))]) ?_ ?_
   ·refine zq 65 ⟨rfl, rfl⟩ ?_
    refine zm ?_
    refine zm ?_
    refine s_val (r_geq rfl rfl) ?_
    refine zc (t60 (t5 [])) ?_
    refine c_if rfl (fun h43 => ?_) (fun h43 => ?_)
    ·refine c_region (n := 65) ⟨rfl, rfl⟩ ?_
     refine zm ?_
     refine zm ?_
     refine s_val (r_sub rfl rfl (wr (r := ((o - (z - a) : Nat) : Int)))) ?_
     refine za ?_
     refine zb (t60 (t5 [])) ?_
     exact ⟨_, rfl, ⟨_, _, _, _, _, _, _, rfl, by omega, H⟩⟩
    ·refine wp_skip ?_
     exact ⟨_, rfl, ⟨_, _, _, _, _, _, _, rfl, by omega, H⟩⟩
   ·rintro l w ⟨u41, u42, u43, u44, u45, u46, o2, hl, ho2, H⟩
    obtain rfl := hl.trans (rfl : _ = t60 (t5 []))
    clear hl
    refine d_begin (sz := 65) ⟨rfl, rfl⟩ (by kernel_rfl) H (H.sub x10n) rfl ?_
    intro w H
    refine zM 0 (H.sub x10n) ?_
    refine zM 1 (H.sub x10n) ?_
    refine zM 2 (H.sub x10n) ?_
    refine zM 3 (H.sub x10n) ?_
    refine zM 4 (H.sub x10n) ?_
    refine zd 5 rfl (by kernel_rfl) (fun _ _ _ h => h) (H.sub x10n) z_add rfl ?_
    refine zM 6 (H.sub x10n) ?_
    refine zM 7 (H.sub x10n) ?_
    refine zM 8 (H.sub x10n) ?_
    refine zd 9 rfl (by kernel_rfl) (fun _ _ _ h => h) (H.sub x10n) z_add rfl ?_
    refine zd 10 rfl (by kernel_rfl) (fun _ _ _ h => h) (H.sub x10n) (ziS qu25 qs28) rfl ?_
    refine zM 12 (H.sub x10n) ?_
    refine zM 13 (H.sub x10n) ?_
    refine zd 14 rfl (by kernel_rfl) (fun _ _ _ h => h) (H.sub x10n) (ziS qu25 qs28) rfl ?_
    refine zl2 11 15 ?_ ?_
    ·refine b_val rfl go_none (r_load1 qg28 rfl (H.at 1 rfl) (u_get0 (i := a + o2) (by omega) (by omega))) rfl (H.sub x10n) ?_
     refine zl1 15 ?_
     refine b_val rfl go_none (r_load1 qg28 rfl (H.at 1 rfl) (u_get0 (i := i) (by omega) (by omega))) rfl (H.sub x10n) ?_
     refine zd 16 rfl (by kernel_rfl) (fun _ _ _ h => h) (H.sub x10n) (ziS qu25 qs28) rfl ?_
     refine zl1 17 ?_
     refine b_st rfl go_none (m_store1 H 1 qs28 rfl rfl rfl rfl (by rw [List.length_append, uC_length]; omega) (uC_setA0 _ sp (i) _ (by omega) (by omega))) (L' := [_,_]) rfl rfl (fun _ H => (H.sub x10n)) ?_
     intro w H
     refine zd 18 rfl (by kernel_rfl) (fun _ _ _ h => h) (H.sub x10n) (ziS qu25 qs28) rfl ?_
     refine zl1 19 ?_
     refine b_st rfl go_none (m_store1 H 1 qs28 rfl rfl rfl rfl (by rw [List.length_append, uC_length, List.length_set]; omega) (uC_setA0 _ sp (a + o2) _ (by rw [List.length_set]; omega) (by omega))) (L' := [_,_]) rfl rfl (fun _ H => (H.sub x10n)) ?_
     intro w H
     refine zz (t60 (t5 [])) ?_
     refine x_blockNormal ?_
     refine x_thenNormal ?_
     refine c_region (n := 65) ⟨rfl, rfl⟩ ?_
     refine zm ?_
     refine zj ?_
     refine za ?_
     refine zb (t60 (t5 [])) ?_
     exact ⟨i + 1, _, rfl, ⟨_, _, _, _, _, _, _, _, _, _, _, _, _, _, _, _, _, _, _, _, _, _, _, _, _, _, _, _, _, _, _, _, _, _, _, _, _, _, _, _, _, swp2 0 zs i (a + o2), rfl, by omega, by omega, (.step i (a + o2) hsw ⟨by omega, by omega⟩ ⟨by omega, by omega⟩ he), H⟩, by omega⟩
    ·refine b_val rfl go_none (r_load1 qg28 rfl (H.at 1 rfl) (u_get0 (i := i) (by omega) (by omega))) rfl (H.sub x10n) ?_
     refine zl1 11 ?_
     refine b_val rfl go_none (r_load1 qg28 rfl (H.at 1 rfl) (u_get0 (i := a + o2) (by omega) (by omega))) rfl (H.sub x10n) ?_
     refine zd 16 rfl (by kernel_rfl) (fun _ _ _ h => h) (H.sub x10n) (ziS qu25 qs28) rfl ?_
     refine zl1 17 ?_
     refine b_st rfl go_none (m_store1 H 1 qs28 rfl rfl rfl rfl (by rw [List.length_append, uC_length]; omega) (uC_setA0 _ sp (i) _ (by omega) (by omega))) (L' := [_,_]) rfl rfl (fun _ H => (H.sub x10n)) ?_
     intro w H
     refine zd 18 rfl (by kernel_rfl) (fun _ _ _ h => h) (H.sub x10n) (ziS qu25 qs28) rfl ?_
     refine zl1 19 ?_
     refine b_st rfl go_none (m_store1 H 1 qs28 rfl rfl rfl rfl (by rw [List.length_append, uC_length, List.length_set]; omega) (uC_setA0 _ sp (a + o2) _ (by rw [List.length_set]; omega) (by omega))) (L' := [_,_]) rfl rfl (fun _ H => (H.sub x10n)) ?_
     intro w H
     refine zz (t60 (t5 [])) ?_
     refine x_blockNormal ?_
     refine x_thenNormal ?_
     refine c_region (n := 65) ⟨rfl, rfl⟩ ?_
     refine zm ?_
     refine zj ?_
     refine za ?_
     refine zb (t60 (t5 [])) ?_
     exact ⟨i + 1, _, rfl, ⟨_, _, _, _, _, _, _, _, _, _, _, _, _, _, _, _, _, _, _, _, _, _, _, _, _, _, _, _, _, _, _, _, _, _, _, _, _, _, _, _, _, swp2 0 zs i (a + o2), rfl, by omega, by omega, (.step i (a + o2) hsw ⟨by omega, by omega⟩ ⟨by omega, by omega⟩ he), H⟩, by omega⟩
  ·refine wp_exit (x_thenExit (x_thenExit (x_blockHit ?_)))
   refine e_end (res0 rfl) ⟨_, rfl, ?_⟩
   exact ⟨rfl, zs, hsw, H.sub (.cons _ (.cons_cons _ .slnil))⟩
 ·refine wp_skip ?_
  refine e_end (res0 rfl) ⟨_, rfl, ?_⟩
  exact ⟨rfl, ys, .refl, H⟩

set_option maxHeartbeats 4000000 in
theorem ord2_specu (b n cap s k : Nat) (ys : List Int) (sp : List Value) (hnl : n = ys.length) (x : Nat) (hx : x < ys.length) (y : Nat) (hy : y < ys.length) (_hl : ys.length ≤ 1000000) (hk : k ≤ 2000) (w0 : World) (hb : w0.heap[b]? = some (.cells (uC ys ++ sp).toArray 28 (0, 0))) (hown : Go.Er.Own w0 [(s, .cells [.int .i64 (k : Nat)].toArray 3 (0, 0))]) (hbX : b ∉ [s]) :
  Calls Try.prog 103 #[.slice (some ⟨b, 0, none⟩) n cap, .int .i64 (x : Nat), .int .i64 (y : Nat), .pointer (some ⟨s, 0, none⟩)] w0 fun e w => ∃ v, e = .returned v ∧ (∃ p q k' : Nat, v = .tuple #[.int .i64 p, .int .i64 q] ∧ ((p = x ∧ q = y) ∨ (p = y ∧ q = x)) ∧ k ≤ k' ∧ k' ≤ k + 1 ∧ St w0 [s] w [(s, .cells [.int .i64 (k' : Nat)].toArray 3 (0, 0))]) := by
 have H : St w0 [s] w0 [(s, .cells [.int .i64 (k : Nat)].toArray 3 (0, 0))] := hown.st
 refine c_enter (args := [.slice (some ⟨b, 0, none⟩) n cap, .int .i64 (x : Nat), .int .i64 (y : Nat), .pointer (some ⟨s, 0, none⟩)]) (l := t20 (t8 [])) Try.func103 Try.ntmps103 rfl rfl ?_
 refine zq 28 ⟨rfl, rfl⟩ ?_
 refine za ?_
 refine za ?_
 refine zc (t20 (t8 [])) ?_
 refine c_seq ?_
 refine c_seq ?_
 refine d_begin (sz := 28) ⟨rfl, rfl⟩ (by kernel_rfl) H (H) rfl ?_
 intro w H
 refine zM 0 H ?_
 refine zM 1 H ?_
 refine zd 2 rfl (by kernel_rfl) (fun _ _ _ h => h) H (ziS qu25 qs28) rfl ?_
 refine zdh 3 rfl (by kernel_rfl) (fun _ _ _ h => h) H (fun HS => r_load1 qg28 rfl (HS.rd hb hbX) (u_get0 (i := y) (by omega) (by omega))) rfl ?_
 refine zM 4 H ?_
 refine zM 5 H ?_
 refine zd 6 rfl (by kernel_rfl) (fun _ _ _ h => h) H (ziS qu25 qs28) rfl ?_
 refine zdh 7 rfl (by kernel_rfl) (fun _ _ _ h => h) H (fun HS => r_load1 qg28 rfl (HS.rd hb hbX) (u_get0 (i := x) (by omega) (by omega))) rfl ?_
 refine zl1 8 ?_
 refine b_call rfl go_none (r_call qc96 (ec rfl (ec rfl en))) (less_spec _ _ _) rfl ?_
 rintro v w ⟨rfl, HC⟩
 replace H := H.quiet HC
 refine ⟨H, ?_⟩
 refine zz (t20 (t8 [])) ?_
 refine x_thenNormal ?_
 refine c_if rfl (fun h18 => ?_) (fun h18 => ?_)
 ·refine zq 28 ⟨rfl, rfl⟩ ?_
  refine zm ?_
  refine s_val (r_nilCheck rfl) ?_
  refine zL qg3 (H.at 0 rfl) ?_
  refine s_val (r_add rfl rfl (wr (r := ((k + 1 : Nat) : Int)))) ?_
  refine s_val (r_nilCheck rfl) ?_
  refine s_st (m_store1 H 0 qs3 rfl rfl rfl rfl (by first | exact (by rw [kC_length]; omega) | exact (by rw [hC_length]; omega) | exact (by simp)) rfl) (L' := [_]) rfl ?_
  intro w H
  refine zc (t20 (t8 [])) ?_
  refine zq 28 ⟨rfl, rfl⟩ ?_
  refine zm ?_
  refine zm ?_
  refine za ?_
  refine za ?_
  refine zc (t20 (t8 [])) ?_
  refine wp_ret (x_thenRet ?_)
  refine zw (res2 rfl rfl rfl) ?_
  exact ⟨y, x, k + 1, rfl, .inr ⟨rfl, rfl⟩, by omega, by omega, H⟩
 ·refine wp_skip ?_
  refine x_thenNormal ?_
  refine zq 28 ⟨rfl, rfl⟩ ?_
  refine zm ?_
  refine zm ?_
  refine za ?_
  refine za ?_
  refine zc (t20 (t8 [])) ?_
  refine wp_ret ?_
  refine zw (res2 rfl rfl rfl) ?_
  exact ⟨x, y, k, rfl, .inl ⟨rfl, rfl⟩, by omega, by omega, H⟩

set_option maxHeartbeats 4000000 in
theorem med_specu (b n cap s k : Nat) (ys : List Int) (sp : List Value) (hnl : n = ys.length) (x : Nat) (hx : x < ys.length) (y : Nat) (hy : y < ys.length) (c : Nat) (hc : c < ys.length) (_hl : ys.length ≤ 1000000) (hk : k ≤ 1000) (w0 : World) (hb : w0.heap[b]? = some (.cells (uC ys ++ sp).toArray 28 (0, 0))) (hown : Go.Er.Own w0 [(s, .cells [.int .i64 (k : Nat)].toArray 3 (0, 0))]) (hbX : b ∉ [s]) :
  Calls Try.prog 102 #[.slice (some ⟨b, 0, none⟩) n cap, .int .i64 (x : Nat), .int .i64 (y : Nat), .int .i64 (c : Nat), .pointer (some ⟨s, 0, none⟩)] w0 fun e w => ∃ v, e = .returned v ∧ (∃ m k' : Nat, v = .int .i64 m ∧ (m = x ∨ m = y ∨ m = c) ∧ k ≤ k' ∧ k' ≤ k + 3 ∧ St w0 [s] w [(s, .cells [.int .i64 (k' : Nat)].toArray 3 (0, 0))]) := by
 have H : St w0 [s] w0 [(s, .cells [.int .i64 (k : Nat)].toArray 3 (0, 0))] := hown.st
 refine c_enter (args := [.slice (some ⟨b, 0, none⟩) n cap, .int .i64 (x : Nat), .int .i64 (y : Nat), .int .i64 (c : Nat), .pointer (some ⟨s, 0, none⟩)]) (l := t30 (t6 [])) Try.func102 Try.ntmps102 rfl rfl ?_
 refine zq 36 ⟨rfl, rfl⟩ ?_
 refine za ?_
 refine zc (t30 (t6 [])) ?_
 refine zq 36 ⟨rfl, rfl⟩ ?_
 refine zm ?_
 refine zm ?_
 refine zm ?_
 refine zm ?_
 refine s_call (r_call Try.call103 (ec rfl (ec rfl (ec rfl (ec rfl en))))) (ord2_specu b n cap s _ ys sp hnl _ (by omega) _ (by omega) (by omega) (by omega) _ (H.rd hb hbX) H.owns0 hbX) ?_
 rintro v w ⟨p1, q1, k1, rfl, hpq1, hk1, hk1b, HC⟩
 replace H := St.call (F := [_]) (L := []) H HC
 refine zm ?_
 refine ze ?_
 refine ze ?_
 refine za ?_
 refine za ?_
 refine zc (t30 (t6 [])) ?_
 refine zq 36 ⟨rfl, rfl⟩ ?_
 refine zm ?_
 refine zm ?_
 refine zm ?_
 refine zm ?_
 refine s_call (r_call Try.call103 (ec rfl (ec rfl (ec rfl (ec rfl en))))) (ord2_specu b n cap s _ ys sp hnl _ (by omega) _ (by omega) (by omega) (by omega) _ (H.rd hb hbX) H.owns0 hbX) ?_
 rintro v w ⟨p2, q2, k2, rfl, hpq2, hk2, hk2b, HC⟩
 replace H := St.call (F := [_]) (L := []) H HC
 refine zm ?_
 refine ze ?_
 refine ze ?_
 refine za ?_
 refine za ?_
 refine zc (t30 (t6 [])) ?_
 refine zq 36 ⟨rfl, rfl⟩ ?_
 refine zm ?_
 refine zm ?_
 refine zm ?_
 refine zm ?_
 refine s_call (r_call Try.call103 (ec rfl (ec rfl (ec rfl (ec rfl en))))) (ord2_specu b n cap s _ ys sp hnl _ (by omega) _ (by omega) (by omega) (by omega) _ (H.rd hb hbX) H.owns0 hbX) ?_
 rintro v w ⟨p3, q3, k3, rfl, hpq3, hk3, hk3b, HC⟩
 replace H := St.call (F := [_]) (L := []) H HC
 refine zm ?_
 refine ze ?_
 refine ze ?_
 refine za ?_
 refine za ?_
 refine zc (t30 (t6 [])) ?_
 refine zq 36 ⟨rfl, rfl⟩ ?_
 refine zm ?_
 refine za ?_
 refine zc (t30 (t6 [])) ?_
 refine wp_ret ?_
 refine zw (res1 rfl rfl) ?_
 exact ⟨q3, k3, rfl, by omega, by omega, by omega, H⟩

set_option maxHeartbeats 4000000 in
theorem madj_specu (b n cap s k : Nat) (ys : List Int) (sp : List Value) (hnl : n = ys.length) (x : Nat) (hx : x < ys.length) (_hl : ys.length ≤ 1000000) (hk : k ≤ 500) (hx1 : 1 ≤ x) (hx2 : x + 1 < ys.length) (w0 : World) (hb : w0.heap[b]? = some (.cells (uC ys ++ sp).toArray 28 (0, 0))) (hown : Go.Er.Own w0 [(s, .cells [.int .i64 (k : Nat)].toArray 3 (0, 0))]) (hbX : b ∉ [s]) :
  Calls Try.prog 101 #[.slice (some ⟨b, 0, none⟩) n cap, .int .i64 (x : Nat), .pointer (some ⟨s, 0, none⟩)] w0 fun e w => ∃ v, e = .returned v ∧ (∃ m k' : Nat, v = .int .i64 m ∧ x - 1 ≤ m ∧ m ≤ x + 1 ∧ k ≤ k' ∧ k' ≤ k + 3 ∧ St w0 [s] w [(s, .cells [.int .i64 (k' : Nat)].toArray 3 (0, 0))]) := by
 have H : St w0 [s] w0 [(s, .cells [.int .i64 (k : Nat)].toArray 3 (0, 0))] := hown.st
 refine c_enter (args := [.slice (some ⟨b, 0, none⟩) n cap, .int .i64 (x : Nat), .pointer (some ⟨s, 0, none⟩)]) (l := t10 (t5 [])) Try.func101 Try.ntmps101 rfl rfl ?_
 refine zq 15 ⟨rfl, rfl⟩ ?_
 refine za ?_
 refine zc (t10 (t5 [])) ?_
 refine zq 15 ⟨rfl, rfl⟩ ?_
 refine zm ?_
 refine zm ?_
 refine s_val (r_sub rfl rfl (wr (r := ((x - 1 : Nat) : Int)))) ?_
 refine zm ?_
 refine zm ?_
 refine s_val (r_add rfl rfl (wr (r := ((x + 1 : Nat) : Int)))) ?_
 refine zm ?_
 refine s_call (r_call Try.call102 (ec rfl (ec rfl (ec rfl (ec rfl (ec rfl en)))))) (med_specu b n cap s _ ys sp hnl _ (by omega) _ (by omega) _ (by omega) (by omega) (by omega) _ (H.rd hb hbX) H.owns0 hbX) ?_
 rintro v w ⟨m, k2, rfl, hm, hk0, hk3, HC⟩
 replace H := St.call (F := [_]) (L := []) H HC
 refine za ?_
 refine zc (t10 (t5 [])) ?_
 refine wp_ret ?_
 refine zw (res1 rfl rfl) ?_
 exact ⟨m, k2, rfl, by omega, by omega, by omega, by omega, H⟩

set_option maxHeartbeats 4000000 in
theorem piv_specu (b n cap : Nat) (ys : List Int) (sp : List Value) (a z : Nat) (hnl : n = ys.length) (_haz : a ≤ z) (he : z ≤ ys.length) (hl : ys.length ≤ 1000000) (hz : a < z) (w0 : World) (hb : w0.heap[b]? = some (.cells (uC ys ++ sp).toArray 28 (0, 0))) :
  Calls Try.prog 93 #[.slice (some ⟨b, 0, none⟩) n cap, .int .i64 (a : Nat), .int .i64 (z : Nat)] w0 fun e w => ∃ v, e = .returned v ∧ (∃ (p : Nat) (h : Int), v = .tuple #[.int .i64 p, .int .i64 h] ∧ a ≤ p ∧ p < z ∧ St w0 [] w []) := by
 have H := St.refl w0
 refine c_enter (args := [.slice (some ⟨b, 0, none⟩) n cap, .int .i64 (a : Nat), .int .i64 (z : Nat)]) (l := t50 (t7 [])) Try.func93 Try.ntmps93 rfl rfl ?_
 refine zq 57 ⟨rfl, rfl⟩ ?_
 refine za ?_
 refine za ?_
 refine zc (t50 (t7 [])) ?_
 refine zq 57 ⟨rfl, rfl⟩ ?_
 refine zm ?_
 refine zm ?_
 refine s_val (r_sub rfl rfl (wr (r := ((z - a : Nat) : Int)))) ?_
 refine za ?_
 refine zc (t50 (t7 [])) ?_
 refine zq 57 ⟨rfl, rfl⟩ ?_
 refine s_new (zA [.int .i64 ((0 : Nat) : Int)] H Try.zeroValue3) ?_
 intro w b9 H
 refine zc (t50 (t7 [])) ?_
 refine zq 57 ⟨rfl, rfl⟩ ?_
 refine zm ?_
 refine zm ?_
 refine s_val (r_quo rfl rfl (by omega) (quoI (by omega) (by omega) (by omega))) ?_
 refine s_val (r_mul rfl rfl w6) ?_
 refine s_val (r_add rfl rfl (wr (r := ((a + (z - a) / 4 * 1 : Nat) : Int)))) ?_
 refine za ?_
 refine zc (t50 (t7 [])) ?_
 refine zq 57 ⟨rfl, rfl⟩ ?_
 refine zm ?_
 refine zm ?_
 refine s_val (r_quo rfl rfl (by omega) (quoI (by omega) (by omega) (by omega))) ?_
 refine s_val (r_mul rfl rfl w6) ?_
 refine s_val (r_add rfl rfl (wr (r := ((a + (z - a) / 4 * 2 : Nat) : Int)))) ?_
 refine za ?_
 refine zc (t50 (t7 [])) ?_
 refine zq 57 ⟨rfl, rfl⟩ ?_
 refine zm ?_
 refine zm ?_
 refine s_val (r_quo rfl rfl (by omega) (quoI (by omega) (by omega) (by omega))) ?_
 refine s_val (r_mul rfl rfl w6) ?_
 refine s_val (r_add rfl rfl (wr (r := ((a + (z - a) / 4 * 3 : Nat) : Int)))) ?_
 refine za ?_
 refine zc (t50 (t7 [])) ?_
 refine c_cut (fun (l0 : List Value) (l : List Value) (w : World) => ∃ (u10 u12 u31 u32 u33 u34 u35 u36 u37 u38 u39 u40 u41 u42 u43 u44 u45 u46 u47 u48 : Value) (j2 k : Nat), l = ovr l0 [N_, N_, N_, N_, N_, N_, N_, N_, N_, N_, Y_ u10, Y_ (.int .i64 (j2 : Nat)), Y_ u12, N_, N_, N_, N_, N_, N_, N_, N_, N_, N_, N_, N_, N_, N_, N_, N_, N_, N_, Y_ u31, Y_ u32, Y_ u33, Y_ u34, Y_ u35, Y_ u36, Y_ u37, Y_ u38, Y_ u39, Y_ u40, Y_ u41, Y_ u42, Y_ u43, Y_ u44, Y_ u45, Y_ u46, Y_ u47, Y_ u48] ∧ a ≤ j2 ∧ j2 < z ∧ St w0 [] w [(b9, .cells [.int .i64 (k : Nat)].toArray 3 (0, 0))]) ?_ ?_
 ·refine zq 57 ⟨rfl, rfl⟩ ?_
  refine zm ?_
  refine s_val (r_geq rfl rfl) ?_
  refine zc (t50 (t7 [])) ?_
  refine c_if rfl (fun h32 => ?_) (fun h32 => ?_)
  ·refine c_cut (fun (l0 : List Value) (l : List Value) (w : World) => ∃ (u33 u34 u35 u36 u37 u38 u39 u40 u41 u42 u43 : Value) (ia ja ka k9 : Nat), l = ovr l0 [N_, N_, N_, N_, N_, N_, N_, N_, N_, N_, Y_ (.int .i64 (ia : Nat)), Y_ (.int .i64 (ja : Nat)), Y_ (.int .i64 (ka : Nat)), N_, N_, N_, N_, N_, N_, N_, N_, N_, N_, N_, N_, N_, N_, N_, N_, N_, N_, N_, N_, Y_ u33, Y_ u34, Y_ u35, Y_ u36, Y_ u37, Y_ u38, Y_ u39, Y_ u40, Y_ u41, Y_ u42, Y_ u43] ∧ (a ≤ ia ∧ ia < z) ∧ (a ≤ ja ∧ ja < z) ∧ (a ≤ ka ∧ ka < z) ∧ k9 ≤ 9 ∧ St w0 [] w [(b9, .cells [.int .i64 (k9 : Nat)].toArray 3 (0, 0))]) ?_ ?_
   ·refine zq 57 ⟨rfl, rfl⟩ ?_
    refine zm ?_
    refine s_val (r_geq rfl rfl) ?_
    refine zc (t50 (t7 [])) ?_
    refine c_if rfl (fun h34 => ?_) (fun h34 => ?_)
    ·refine zq 57 ⟨rfl, rfl⟩ ?_
     refine zm ?_
     refine zm ?_
     refine s_call (r_call Try.call101 (ec rfl (ec rfl (ec rfl en)))) (madj_specu b n cap b9 0 ys sp hnl _ (by omega) (by omega) (by omega) (by omega) (by omega) _ (H.rd0 hb) H.owns0 (H.ne0 hb)) ?_
     rintro v w ⟨m1, k1, rfl, hml1, hmh1, hk1, hkb1, HC⟩
     replace H := St.call (F := [_]) (L := []) H HC
     refine za ?_
     refine zc (t50 (t7 [])) ?_
     refine zq 57 ⟨rfl, rfl⟩ ?_
     refine zm ?_
     refine zm ?_
     refine s_call (r_call Try.call101 (ec rfl (ec rfl (ec rfl en)))) (madj_specu b n cap b9 _ ys sp hnl _ (by omega) (by omega) (by omega) (by omega) (by omega) _ (H.rd0 hb) H.owns0 (H.ne0 hb)) ?_
     rintro v w ⟨m2, k2, rfl, hml2, hmh2, hk2, hkb2, HC⟩
     replace H := St.call (F := [_]) (L := []) H HC
     refine za ?_
     refine zc (t50 (t7 [])) ?_
     refine c_region (n := 57) ⟨rfl, rfl⟩ ?_
     refine zm ?_
     refine zm ?_
     refine s_call (r_call Try.call101 (ec rfl (ec rfl (ec rfl en)))) (madj_specu b n cap b9 _ ys sp hnl _ (by omega) (by omega) (by omega) (by omega) (by omega) _ (H.rd0 hb) H.owns0 (H.ne0 hb)) ?_
     rintro v w ⟨m3, k3, rfl, hml3, hmh3, hk3, hkb3, HC⟩
     replace H := St.call (F := [_]) (L := []) H HC
     refine za ?_
     refine zb (t50 (t7 [])) ?_
     exact ⟨_, rfl, ⟨_, _, _, _, _, _, _, _, _, _, _, _, _, _, _, rfl, ⟨by omega, by omega⟩, ⟨by omega, by omega⟩, ⟨by omega, by omega⟩, by omega, H⟩⟩
    ·refine wp_skip ?_
     exact ⟨_, rfl, ⟨_, _, _, _, _, _, _, _, _, _, _, _, _, _, _, rfl, ⟨by omega, by omega⟩, ⟨by omega, by omega⟩, ⟨by omega, by omega⟩, by omega, H⟩⟩
   ·rintro l w ⟨u33, u34, u35, u36, u37, u38, u39, u40, u41, u42, u43, ia, ja, ka, k9, hl, hq1, hq2, hq3, hq4, H⟩
    obtain rfl := hl.trans (rfl : _ = t50 (t7 []))
    clear hl
    refine c_region (n := 57) ⟨rfl, rfl⟩ ?_
    refine zm ?_
    refine zm ?_
    refine zm ?_
    refine zm ?_
    refine s_call (r_call Try.call102 (ec rfl (ec rfl (ec rfl (ec rfl (ec rfl en)))))) (med_specu b n cap b9 _ ys sp hnl _ (by omega) _ (by omega) _ (by omega) (by omega) (by omega) _ (H.rd0 hb) H.owns0 (H.ne0 hb)) ?_
    rintro v w ⟨m, k, rfl, hm, hk0, hk3, HC⟩
    replace H := St.call (F := [_]) (L := []) H HC
    refine za ?_
    refine zb (t50 (t7 [])) ?_
    exact ⟨_, rfl, ⟨_, _, _, _, _, _, _, _, _, _, _, _, _, _, _, _, _, _, _, _, _, _, rfl, by omega, by omega, H⟩⟩
  ·refine wp_skip ?_
   exact ⟨_, rfl, ⟨_, _, _, _, _, _, _, _, _, _, _, _, _, _, _, _, _, _, _, _, _, _, rfl, by omega, by omega, H⟩⟩
 ·rintro l w ⟨u10, u12, u31, u32, u33, u34, u35, u36, u37, u38, u39, u40, u41, u42, u43, u44, u45, u46, u47, u48, j2, k, hl, hj1, hj2, H⟩
  obtain rfl := hl.trans (rfl : _ = t50 (t7 []))
  clear hl
  refine zq 57 ⟨rfl, rfl⟩ ?_
  refine zL qg3 (H.at 0 rfl) ?_
  refine zc (t50 (t7 [])) ?_
  refine wp_block ?_
  refine zq 57 ⟨rfl, rfl⟩ ?_
  refine s_val (r_eql rfl rfl) ?_
  refine za ?_
  refine zc (t50 (t7 [])) ?_
  refine c_if rfl (fun h51 => ?_) (fun h51 => ?_)
  ·refine zq 57 ⟨rfl, rfl⟩ ?_
   refine zm ?_
   refine za ?_
   refine za ?_
   refine zc (t50 (t7 [])) ?_
   refine wp_ret (x_blockRet ?_)
   refine zw (res2 rfl rfl rfl) ?_
   exact ⟨_, 1, rfl, hj1, hj2, H.sub (List.nil_sublist _)⟩
  ·refine zq 57 ⟨rfl, rfl⟩ ?_
   refine s_val (r_eql rfl rfl) ?_
   refine za ?_
   refine zc (t50 (t7 [])) ?_
   refine c_if rfl (fun h54 => ?_) (fun h54 => ?_)
   ·refine zq 57 ⟨rfl, rfl⟩ ?_
    refine zm ?_
    refine za ?_
    refine za ?_
    refine zc (t50 (t7 [])) ?_
    refine wp_ret (x_blockRet ?_)
    refine zw (res2 rfl rfl rfl) ?_
    exact ⟨_, 2, rfl, hj1, hj2, H.sub (List.nil_sublist _)⟩
   ·refine zq 57 ⟨rfl, rfl⟩ ?_
    refine zm ?_
    refine za ?_
    refine za ?_
    refine zc (t50 (t7 [])) ?_
    refine wp_ret (x_blockRet ?_)
    refine zw (res2 rfl rfl rfl) ?_
    exact ⟨_, 0, rfl, hj1, hj2, H.sub (List.nil_sublist _)⟩

set_option maxHeartbeats 4000000 in
theorem rev_specu (b n cap : Nat) (ys : List Int) (sp : List Value) (a z : Nat) (hnl : n = ys.length) (haz : a ≤ z) (he : z ≤ ys.length) (hl : ys.length ≤ 1000000) (w0 : World) (hown : Go.Er.Own w0 [(b, .cells (uC ys ++ sp).toArray 28 (0, 0))]) :
  Calls Try.prog 94 #[.slice (some ⟨b, 0, none⟩) n cap, .int .i64 (a : Nat), .int .i64 (z : Nat)] w0 fun e w => ∃ v, e = .returned v ∧ (v = .tuple #[] ∧ ∃ zs, Sw 0 a z ys zs ∧ St w0 [b] w [(b, .cells (uC zs ++ sp).toArray 28 (0, 0))]) := by
 have H : St w0 [b] w0 [(b, .cells (uC ys ++ sp).toArray 28 (0, 0))] := hown.st
 refine c_enter (args := [.slice (some ⟨b, 0, none⟩) n cap, .int .i64 (a : Nat), .int .i64 (z : Nat)]) (l := t30 (t2 [])) Try.func94 Try.ntmps94 rfl rfl ?_
 refine zq 32 ⟨rfl, rfl⟩ ?_
 refine zm ?_
 refine za ?_
 refine zc (t30 (t2 [])) ?_
 refine zq 32 ⟨rfl, rfl⟩ ?_
 refine zm ?_
 refine s_val (r_sub rfl rfl (wr (r := (z : Int) - 1 - (0 : Nat)))) ?_
 refine za ?_
 refine zc (t30 (t2 [])) ?_
 refine wp_block ?_
 refine c_loop (fun (l0 : List Value) (k : Nat) (l : List Value) (w : World) => ∃ (u11 u12 u13 u14 u15 u16 u17 u18 u19 u20 u21 u22 u23 u24 u25 u26 u27 u28 u29 u30 u31 : Value) (zs : List Int), l = ovr l0 [N_, N_, N_, N_, N_, N_, Y_ (.int .i64 (a + k : Nat)), Y_ (.int .i64 ((z : Int) - 1 - (k : Nat))), N_, N_, N_, Y_ u11, Y_ u12, Y_ u13, Y_ u14, Y_ u15, Y_ u16, Y_ u17, Y_ u18, Y_ u19, Y_ u20, Y_ u21, Y_ u22, Y_ u23, Y_ u24, Y_ u25, Y_ u26, Y_ u27, Y_ u28, Y_ u29, Y_ u30, Y_ u31] ∧ k ≤ z ∧ Sw 0 a z ys zs ∧ St w0 [b] w [(b, .cells (uC zs ++ sp).toArray 28 (0, 0))]) (fun (k : Nat) => z - k) 0 ⟨_, _, _, _, _, _, _, _, _, _, _, _, _, _, _, _, _, _, _, _, _, ys, rfl, by omega, .refl, H⟩ ?_
 intro k l w ⟨u11, u12, u13, u14, u15, u16, u17, u18, u19, u20, u21, u22, u23, u24, u25, u26, u27, u28, u29, u30, u31, zs, hl, hk, hsw, H⟩
 obtain rfl := hl.trans (rfl : _ = t30 (t2 []))
 clear hl
 have hlen := hsw.length
 refine c_seq ?_
 refine zq 32 ⟨rfl, rfl⟩ ?_
 refine zm ?_
 refine zm ?_
 refine s_val (r_lss rfl rfl) ?_
 refine zc (t30 (t2 [])) ?_
 refine c_if rfl (fun h13 => ?_) (fun h13 => ?_)
 ·obtain ⟨j, hj⟩ : ∃ j : Nat, (j : Int) = (z : Int) - 1 - (k : Nat) := ⟨z - 1 - k, by omega⟩
  rw [← hj]
  refine wp_skip ?_
  refine x_thenNormal ?_
  refine wp_block ?_
  refine c_seq ?_
  refine d_begin (sz := 32) ⟨rfl, rfl⟩ (by kernel_rfl) H (H.sub x0n) rfl ?_
  intro w H
  refine zM 0 (H.sub x0n) ?_
  refine zM 1 (H.sub x0n) ?_
  refine zM 2 (H.sub x0n) ?_
  refine zM 3 (H.sub x0n) ?_
  refine zM 4 (H.sub x0n) ?_
  refine zM 5 (H.sub x0n) ?_
  refine zd 6 rfl (by kernel_rfl) (fun _ _ _ h => h) (H.sub x0n) (ziS qu25 qs28) rfl ?_
  refine zM 8 (H.sub x0n) ?_
  refine zM 9 (H.sub x0n) ?_
  refine zd 10 rfl (by kernel_rfl) (fun _ _ _ h => h) (H.sub x0n) (ziS qu25 qs28) rfl ?_
  refine zl2 7 11 ?_ ?_
  ·refine b_val rfl go_none (r_load1 qg28 rfl (H.at 0 rfl) (u_get0 (i := j) (by omega) (by omega))) rfl (H.sub x0n) ?_
   refine zl1 11 ?_
   refine b_val rfl go_none (r_load1 qg28 rfl (H.at 0 rfl) (u_get0 (i := a + k) (by omega) (by omega))) rfl (H.sub x0n) ?_
   refine zd 12 rfl (by kernel_rfl) (fun _ _ _ h => h) (H.sub x0n) (ziS qu25 qs28) rfl ?_
   refine zl1 13 ?_
   refine b_st rfl go_none (m_store1 H 0 qs28 rfl rfl rfl rfl (by rw [List.length_append, uC_length]; omega) (uC_setA0 _ sp (a + k) _ (by omega) (by omega))) (L' := [_]) rfl rfl (fun _ H => (H.sub x0n)) ?_
   intro w H
   refine zd 14 rfl (by kernel_rfl) (fun _ _ _ h => h) (H.sub x0n) (ziS qu25 qs28) rfl ?_
   refine zl1 15 ?_
   refine b_st rfl go_none (m_store1 H 0 qs28 rfl rfl rfl rfl (by rw [List.length_append, uC_length, List.length_set]; omega) (uC_setA0 _ sp (j) _ (by rw [List.length_set]; omega) (by omega))) (L' := [_]) rfl rfl (fun _ H => (H.sub x0n)) ?_
   intro w H
   refine zz (t30 (t2 [])) ?_
   refine x_thenNormal ?_
   refine zq 32 ⟨rfl, rfl⟩ ?_
   refine zm ?_
   refine s_val (r_add rfl rfl (wr (r := ((a + (k + 1) : Nat) : Int)))) ?_
   refine za ?_
   refine zc (t30 (t2 [])) ?_
   refine c_region (n := 32) ⟨rfl, rfl⟩ ?_
   refine zm ?_
   refine s_val (r_sub rfl rfl (wr (r := (z : Int) - 1 - (k + 1 : Nat)))) ?_
   refine za ?_
   refine zb (t30 (t2 [])) ?_
   refine x_blockNormal ?_
   exact ⟨k + 1, _, rfl, ⟨_, _, _, _, _, _, _, _, _, _, _, _, _, _, _, _, _, _, _, _, _, swp2 0 zs (a + k) j, rfl, by omega, (.step (a + k) j hsw ⟨by omega, by omega⟩ ⟨by omega, by omega⟩ he), H⟩, by omega⟩
  ·refine b_val rfl go_none (r_load1 qg28 rfl (H.at 0 rfl) (u_get0 (i := a + k) (by omega) (by omega))) rfl (H.sub x0n) ?_
   refine zl1 7 ?_
   refine b_val rfl go_none (r_load1 qg28 rfl (H.at 0 rfl) (u_get0 (i := j) (by omega) (by omega))) rfl (H.sub x0n) ?_
   refine zd 12 rfl (by kernel_rfl) (fun _ _ _ h => h) (H.sub x0n) (ziS qu25 qs28) rfl ?_
   refine zl1 13 ?_
   refine b_st rfl go_none (m_store1 H 0 qs28 rfl rfl rfl rfl (by rw [List.length_append, uC_length]; omega) (uC_setA0 _ sp (a + k) _ (by omega) (by omega))) (L' := [_]) rfl rfl (fun _ H => (H.sub x0n)) ?_
   intro w H
   refine zd 14 rfl (by kernel_rfl) (fun _ _ _ h => h) (H.sub x0n) (ziS qu25 qs28) rfl ?_
   refine zl1 15 ?_
   refine b_st rfl go_none (m_store1 H 0 qs28 rfl rfl rfl rfl (by rw [List.length_append, uC_length, List.length_set]; omega) (uC_setA0 _ sp (j) _ (by rw [List.length_set]; omega) (by omega))) (L' := [_]) rfl rfl (fun _ H => (H.sub x0n)) ?_
   intro w H
   refine zz (t30 (t2 [])) ?_
   refine x_thenNormal ?_
   refine zq 32 ⟨rfl, rfl⟩ ?_
   refine zm ?_
   refine s_val (r_add rfl rfl (wr (r := ((a + (k + 1) : Nat) : Int)))) ?_
   refine za ?_
   refine zc (t30 (t2 [])) ?_
   refine c_region (n := 32) ⟨rfl, rfl⟩ ?_
   refine zm ?_
   refine s_val (r_sub rfl rfl (wr (r := (z : Int) - 1 - (k + 1 : Nat)))) ?_
   refine za ?_
   refine zb (t30 (t2 [])) ?_
   refine x_blockNormal ?_
   exact ⟨k + 1, _, rfl, ⟨_, _, _, _, _, _, _, _, _, _, _, _, _, _, _, _, _, _, _, _, _, swp2 0 zs (a + k) j, rfl, by omega, (.step (a + k) j hsw ⟨by omega, by omega⟩ ⟨by omega, by omega⟩ he), H⟩, by omega⟩
 ·refine wp_exit (x_thenExit (x_thenExit (x_blockHit ?_)))
  refine e_end (res0 rfl) ⟨_, rfl, ?_⟩
  exact ⟨rfl, zs, hsw, H⟩

end Go.Proofs.Ytobfnieebiakeaa

