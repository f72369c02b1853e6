import Derived.Test.YtobfnieebiakeaaPM
import Derived.Test.YtobfnieebiakeaaPY0
namespace Go.Proofs.Ytobfnieebiakeaa
open Go Go.Er

set_option maxHeartbeats 4000000 in
theorem sift_specu (b n cap : Nat) (ys : List Int) (sp : List Value) (a lo hi : Nat) (hnl : n = ys.length) (he : a + hi ≤ ys.length) (hl : ys.length ≤ 1000000) (hlo : lo ≤ 1000000) (hh : Hp 0 id a (lo + 1) hi ys) (w0 : World) (hown : Go.Er.Own w0 [(b, .cells (uC ys ++ sp).toArray 28 (0, 0))]) :
  Calls Try.prog 100 #[.slice (some ⟨b, 0, none⟩) n cap, .int .i64 (lo : Nat), .int .i64 (hi : Nat), .int .i64 (a : Nat)] w0 fun e w => ∃ v, e = .returned v ∧ (v = .tuple #[] ∧ ∃ zs, Sw 0 a (a + hi) ys zs ∧ Hp 0 id a lo hi zs ∧ St w0 [b] w [(b, .cells (uC zs ++ sp).toArray 28 (0, 0))]) := by
 have H : St w0 [b] w0 [(b, .cells (uC ys ++ sp).toArray 28 (0, 0))] := hown.st
 refine c_enter (args := [.slice (some ⟨b, 0, none⟩) n cap, .int .i64 (lo : Nat), .int .i64 (hi : Nat), .int .i64 (a : Nat)]) (l := t70 (t6 [])) Try.func100 Try.ntmps100 rfl rfl ?_
 refine zq 76 ⟨rfl, rfl⟩ ?_
 refine zm ?_
 refine za ?_
 refine zc (t70 (t6 [])) ?_
 refine wp_block ?_
 refine c_loop (fun (l0 : List Value) (r : Nat) (l : List Value) (w : World) => ∃ (u9 u11 u12 u13 u14 u15 u16 u17 u18 u19 u20 u21 u22 u23 u24 u25 u26 u27 u28 u29 u30 u31 u32 u33 u34 u35 u36 u37 u38 u39 u40 u41 u42 u43 u44 u45 u46 u47 u48 u49 u50 u51 u52 u53 u54 u55 u56 u57 u58 u59 u60 u61 u62 u63 u64 u65 u66 u67 u68 u69 u70 u71 u72 u73 u74 u75 : Value) (zs : List Int), l = ovr l0 [N_, N_, N_, N_, N_, N_, N_, N_, Y_ (.int .i64 (r : Nat)), Y_ u9, N_, Y_ u11, Y_ u12, Y_ u13, Y_ u14, Y_ u15, Y_ u16, Y_ u17, Y_ u18, Y_ u19, Y_ u20, Y_ u21, Y_ u22, Y_ u23, Y_ u24, Y_ u25, Y_ u26, Y_ u27, Y_ u28, Y_ u29, Y_ u30, Y_ u31, Y_ u32, Y_ u33, Y_ u34, Y_ u35, Y_ u36, Y_ u37, Y_ u38, Y_ u39, Y_ u40, Y_ u41, Y_ u42, Y_ u43, Y_ u44, Y_ u45, Y_ u46, Y_ u47, Y_ u48, Y_ u49, Y_ u50, Y_ u51, Y_ u52, Y_ u53, Y_ u54, Y_ u55, Y_ u56, Y_ u57, Y_ u58, Y_ u59, Y_ u60, Y_ u61, Y_ u62, Y_ u63, Y_ u64, Y_ u65, Y_ u66, Y_ u67, Y_ u68, Y_ u69, Y_ u70, Y_ u71, Y_ u72, Y_ u73, Y_ u74, Y_ u75] ∧ Sw 0 a (a + hi) ys zs ∧ HpX 0 id a lo hi r zs ∧ (r ≤ lo ∨ r < hi) ∧ St w0 [b] w [(b, .cells (uC zs ++ sp).toArray 28 (0, 0))]) (fun (r : Nat) => hi - r) lo ⟨_, _, _, _, _, _, _, _, _, _, _, _, _, _, _, _, _, _, _, _, _, _, _, _, _, _, _, _, _, _, _, _, _, _, _, _, _, _, _, _, _, _, _, _, _, _, _, _, _, _, _, _, _, _, _, _, _, _, _, _, _, _, _, _, _, _, ys, rfl, .refl, hh.start, (.inl (Nat.le_refl _)), H⟩ ?_
 intro r l w ⟨u9, u11, u12, u13, u14, u15, u16, u17, u18, u19, u20, u21, u22, u23, u24, u25, u26, u27, u28, u29, u30, u31, u32, u33, u34, u35, u36, u37, u38, u39, u40, u41, u42, u43, u44, u45, u46, u47, u48, u49, u50, u51, u52, u53, u54, u55, u56, u57, u58, u59, u60, u61, u62, u63, u64, u65, u66, u67, u68, u69, u70, u71, u72, u73, u74, u75, zs, hl, hsw, hx, hrb, H⟩
 obtain rfl := hl.trans (rfl : _ = t70 (t6 []))
 clear hl
 have hlen := hsw.length
 refine wp_block ?_
 refine zq 76 ⟨rfl, rfl⟩ ?_
 refine zm ?_
 refine s_val (r_mul rfl rfl (wr (r := ((2 * r : Nat) : Int)))) ?_
 refine s_val (r_add rfl rfl (wr (r := ((2 * r + 1 : Nat) : Int)))) ?_
 refine za ?_
 refine zc (t70 (t6 [])) ?_
 refine c_seq ?_
 refine zq 76 ⟨rfl, rfl⟩ ?_
 refine zm ?_
 refine zm ?_
 refine s_val (r_geq rfl rfl) ?_
 refine zc (t70 (t6 [])) ?_
 refine c_if rfl (fun h16 => ?_) (fun h16 => ?_)
 ·refine wp_exit (x_thenExit (x_blockMiss (by decide) (x_thenExit (x_blockHit ?_))))
  refine e_end (res0 rfl) ⟨_, rfl, ?_⟩
  exact ⟨rfl, zs, hsw, hx.leaf (by omega), H⟩
 ·refine wp_skip ?_
  refine x_thenNormal ?_
  refine c_cut (fun (l0 : List Value) (l : List Value) (w : World) => ∃ (u17 u18 u19 u20 u21 u22 u23 u24 u25 u26 u27 u28 u29 u30 u31 u32 u33 u34 u35 u36 u37 u38 : Value) (ch : Nat), l = ovr l0 [N_, N_, N_, N_, N_, N_, N_, N_, N_, Y_ (.int .i64 (ch : Nat)), N_, N_, N_, N_, N_, N_, N_, Y_ u17, Y_ u18, Y_ u19, Y_ u20, Y_ u21, Y_ u22, Y_ u23, Y_ u24, Y_ u25, Y_ u26, Y_ u27, Y_ u28, Y_ u29, Y_ u30, Y_ u31, Y_ u32, Y_ u33, Y_ u34, Y_ u35, Y_ u36, Y_ u37, Y_ u38] ∧ (ch = 2 * r + 1 ∨ ch = 2 * r + 2) ∧ ch < hi ∧ (∀ c, (c = 2 * r + 1 ∨ c = 2 * r + 2) → c < hi → kk 0 id zs (a + c) ≤ kk 0 id zs (a + ch)) ∧ St w0 [b] w [(b, .cells (uC zs ++ sp).toArray 28 (0, 0))]) ?_ ?_
  ·refine c_seq ?_
   refine d_begin (sz := 76) ⟨rfl, rfl⟩ (by kernel_rfl) H (H) rfl ?_
   intro w H
   refine zM 0 H ?_
   refine zd 1 rfl (by kernel_rfl) (fun _ _ _ h => h) H (r_add rfl rfl (wr (r := ((2 * r + 2 : Nat) : Int)))) rfl ?_
   refine zM 2 H ?_
   refine zd 3 rfl (by kernel_rfl) (fun _ _ _ h => h) H (r_lss rfl rfl) rfl ?_
   refine d_part (fun h20 => ?_) (fun h20 => ?_)
   ·refine zM 4 H ?_
    refine zG 5 rfl rfl rfl (by kernel_rfl) (fun _ _ _ h => h) H (r_move rfl) rfl ?_
    refine zG 6 rfl rfl rfl (by kernel_rfl) (fun _ _ _ h => h) H (r_move rfl) rfl ?_
    refine zG 7 rfl rfl rfl (by kernel_rfl) (fun _ _ _ h => h) H (r_move rfl) rfl ?_
    refine zG 8 rfl rfl rfl (by kernel_rfl) (fun _ _ _ h => h) H (r_add rfl rfl (wr (r := ((a + (2 * r + 1) : Nat) : Int)))) rfl ?_
    refine zG 9 rfl rfl rfl (by kernel_rfl) (fun _ _ _ h => h) H (ziS qu25 qs28) rfl ?_
    refine zGh 10 rfl rfl rfl (by kernel_rfl) (fun _ _ _ h => h) H (fun HS => r_load1 qg28 rfl (HS.at 0 rfl) (u_get0 (i := a + (2 * r + 1)) (by omega) (by omega))) rfl ?_
    refine zG 11 rfl rfl rfl (by kernel_rfl) (fun _ _ _ h => h) H (r_move rfl) rfl ?_
    refine zG 12 rfl rfl rfl (by kernel_rfl) (fun _ _ _ h => h) H (r_move rfl) rfl ?_
    refine zG 13 rfl rfl rfl (by kernel_rfl) (fun _ _ _ h => h) H (r_move rfl) rfl ?_
    refine zG 14 rfl rfl rfl (by kernel_rfl) (fun _ _ _ h => h) H (r_add rfl rfl (wr (r := ((a + (2 * r + 1) : Nat) : Int)))) rfl ?_
    refine zG 15 rfl rfl rfl (by kernel_rfl) (fun _ _ _ h => h) H (r_add rfl rfl (wr (r := ((a + (2 * r + 2) : Nat) : Int)))) rfl ?_
    refine zG 16 rfl rfl rfl (by kernel_rfl) (fun _ _ _ h => h) H (ziS qu25 qs28) rfl ?_
    refine zGh 17 rfl rfl rfl (by kernel_rfl) (fun _ _ _ h => h) H (fun HS => r_load1 qg28 rfl (HS.at 0 rfl) (u_get0 (i := a + (2 * r + 2)) (by omega) (by omega))) rfl ?_
    refine zl1 18 ?_
    refine b_call rfl (go_some rfl rfl) (r_call qc96 (ec rfl (ec rfl en))) (less_spec _ _ _) rfl ?_
    rintro v w ⟨rfl, HC⟩
    replace H := H.quiet HC
    refine ⟨H, ?_⟩
    refine zd 19 rfl (by kernel_rfl) (fun _ _ _ h => h) H (r_pickt rfl rfl) rfl ?_
    refine zz (t70 (t6 [])) ?_
    refine x_thenNormal ?_
    refine c_if rfl (fun h36 => ?_) (fun h36 => ?_)
    ·have hcm40 := h36
     refine c_region (n := 76) ⟨rfl, rfl⟩ ?_
     refine zm ?_
     refine s_val (r_add rfl rfl (wr (r := ((2 * r + 2 : Nat) : Int)))) ?_
     refine za ?_
     refine zb (t70 (t6 [])) ?_
     exact ⟨_, rfl, ⟨_, _, _, _, _, _, _, _, _, _, _, _, _, _, _, _, _, _, _, _, _, _, _, rfl, (.inr rfl), by omega, (fun c h1 _ => by rcases h1 with rfl | rfl; exact Int.le_of_lt hcm40; exact Int.le_refl _), H⟩⟩
    ·have hcm40 := h36
     refine wp_skip ?_
     exact ⟨_, rfl, ⟨_, _, _, _, _, _, _, _, _, _, _, _, _, _, _, _, _, _, _, _, _, _, _, rfl, (.inl rfl), by omega, (fun c h1 _ => by rcases h1 with rfl | rfl; exact Int.le_refl _; exact Int.not_lt.1 hcm40), H⟩⟩
   ·refine zM 4 H ?_
    refine zN 5 H ?_
    refine zN 6 H ?_
    refine zN 7 H ?_
    refine zN 8 H ?_
    refine zN 9 H ?_
    refine zN 10 H ?_
    refine zN 11 H ?_
    refine zN 12 H ?_
    refine zN 13 H ?_
    refine zN 14 H ?_
    refine zN 15 H ?_
    refine zN 16 H ?_
    refine zN 17 H ?_
    refine zN 18 H ?_
    refine zd 19 rfl (by kernel_rfl) (fun _ _ _ h => h) H (r_pickf rfl rfl) rfl ?_
    refine zz (t70 (t6 [])) ?_
    refine x_thenNormal ?_
    refine c_iff rfl ?_
    refine wp_skip ?_
    exact ⟨_, rfl, ⟨_, _, _, _, _, _, _, _, _, _, _, _, _, _, _, _, _, _, _, _, _, _, _, rfl, (.inl rfl), by omega, (fun c h1 h2 => by rcases h1 with rfl | rfl; exact Int.le_refl _; omega), H⟩⟩
  ·rintro l w ⟨u17, u18, u19, u20, u21, u22, u23, u24, u25, u26, u27, u28, u29, u30, u31, u32, u33, u34, u35, u36, u37, u38, ch, hl, hch, hchi, hmx, H⟩
   obtain rfl := hl.trans (rfl : _ = t70 (t6 []))
   clear hl
   refine c_seq ?_
   refine c_seq ?_
   refine d_begin (sz := 76) ⟨rfl, rfl⟩ (by kernel_rfl) H (H) rfl ?_
   intro w H
   refine zM 0 H ?_
   refine zM 1 H ?_
   refine zM 2 H ?_
   refine zd 3 rfl (by kernel_rfl) (fun _ _ _ h => h) H (r_add rfl rfl (wr (r := ((a + r : Nat) : Int)))) rfl ?_
   refine zd 4 rfl (by kernel_rfl) (fun _ _ _ h => h) H (ziS qu25 qs28) rfl ?_
   refine zdh 5 rfl (by kernel_rfl) (fun _ _ _ h => h) H (fun HS => r_load1 qg28 rfl (HS.at 0 rfl) (u_get0 (i := a + r) (by omega) (by omega))) rfl ?_
   refine zM 6 H ?_
   refine zM 7 H ?_
   refine zM 8 H ?_
   refine zd 9 rfl (by kernel_rfl) (fun _ _ _ h => h) H (r_add rfl rfl (wr (r := ((a + ch : Nat) : Int)))) rfl ?_
   refine zd 10 rfl (by kernel_rfl) (fun _ _ _ h => h) H (ziS qu25 qs28) rfl ?_
   refine zdh 11 rfl (by kernel_rfl) (fun _ _ _ h => h) H (fun HS => r_load1 qg28 rfl (HS.at 0 rfl) (u_get0 (i := a + ch) (by omega) (by omega))) rfl ?_
   refine zl1 12 ?_
   refine b_call rfl go_none (r_call qc96 (ec rfl (ec rfl en))) (less_spec _ _ _) rfl ?_
   rintro v w ⟨rfl, HC⟩
   replace H := H.quiet HC
   refine ⟨H, ?_⟩
   refine zd 13 rfl (by kernel_rfl) (fun _ _ _ h => h) H (r_notp rfl) rfl ?_
   refine zz (t70 (t6 [])) ?_
   refine x_thenNormal ?_
   refine c_if rfl (fun h52 => ?_) (fun h52 => ?_)
   ·have hcm58 := h52
    refine wp_ret (x_thenRet (x_blockRet (x_thenRet (x_blockRet ?_))))
    refine zw (res0 rfl) ?_
    exact ⟨rfl, zs, hsw, hx.done hmx hcm58, H⟩
   ·have hcm58 := Decidable.not_not.1 h52
    refine wp_skip ?_
    refine x_thenNormal ?_
    refine c_seq ?_
    refine d_begin (sz := 76) ⟨rfl, rfl⟩ (by kernel_rfl) H (H.sub x0n) rfl ?_
    intro w H
    refine zM 0 (H.sub x0n) ?_
    refine zM 1 (H.sub x0n) ?_
    refine zM 2 (H.sub x0n) ?_
    refine zd 3 rfl (by kernel_rfl) (fun _ _ _ h => h) (H.sub x0n) (r_add rfl rfl (wr (r := ((a + r : Nat) : Int)))) rfl ?_
    refine zM 4 (H.sub x0n) ?_
    refine zM 5 (H.sub x0n) ?_
    refine zM 6 (H.sub x0n) ?_
    refine zd 7 rfl (by kernel_rfl) (fun _ _ _ h => h) (H.sub x0n) (r_add rfl rfl (wr (r := ((a + ch : Nat) : Int)))) rfl ?_
    refine zM 8 (H.sub x0n) ?_
    refine zM 9 (H.sub x0n) ?_
    refine zM 10 (H.sub x0n) ?_
    refine zd 11 rfl (by kernel_rfl) (fun _ _ _ h => h) (H.sub x0n) (r_add rfl rfl (wr (r := ((a + ch : Nat) : Int)))) rfl ?_
    refine zd 12 rfl (by kernel_rfl) (fun _ _ _ h => h) (H.sub x0n) (ziS qu25 qs28) rfl ?_
    refine zM 14 (H.sub x0n) ?_
    refine zM 15 (H.sub x0n) ?_
    refine zM 16 (H.sub x0n) ?_
    refine zd 17 rfl (by kernel_rfl) (fun _ _ _ h => h) (H.sub x0n) (r_add rfl rfl (wr (r := ((a + r : Nat) : Int)))) rfl ?_
    refine zd 18 rfl (by kernel_rfl) (fun _ _ _ h => h) (H.sub x0n) (ziS qu25 qs28) rfl ?_
    refine zl2 13 19 ?_ ?_
    ·refine b_val rfl go_none (r_load1 qg28 rfl (H.at 0 rfl) (u_get0 (i := a + ch) (by omega) (by omega))) rfl (H.sub x0n) ?_
     refine zl1 19 ?_
     refine b_val rfl go_none (r_load1 qg28 rfl (H.at 0 rfl) (u_get0 (i := a + r) (by omega) (by omega))) rfl (H.sub x0n) ?_
     refine zd 20 rfl (by kernel_rfl) (fun _ _ _ h => h) (H.sub x0n) (ziS qu25 qs28) rfl ?_
     refine zl1 21 ?_
     refine b_st rfl go_none (m_store1 H 0 qs28 rfl rfl rfl rfl (by rw [List.length_append, uC_length]; omega) (uC_setA0 _ sp (a + r) _ (by omega) (by omega))) (L' := [_]) rfl rfl (fun _ H => (H.sub x0n)) ?_
     intro w H
     refine zd 22 rfl (by kernel_rfl) (fun _ _ _ h => h) (H.sub x0n) (ziS qu25 qs28) rfl ?_
     refine zl1 23 ?_
     refine b_st rfl go_none (m_store1 H 0 qs28 rfl rfl rfl rfl (by rw [List.length_append, uC_length, List.length_set]; omega) (uC_setA0 _ sp (a + ch) _ (by rw [List.length_set]; omega) (by omega))) (L' := [_]) rfl rfl (fun _ H => (H.sub x0n)) ?_
     intro w H
     refine zz (t70 (t6 [])) ?_
     refine x_thenNormal ?_
     refine c_region (n := 76) ⟨rfl, rfl⟩ ?_
     refine zm ?_
     refine za ?_
     refine zb (t70 (t6 [])) ?_
     refine x_blockNormal ?_
     exact ⟨ch, _, rfl, ⟨_, _, _, _, _, _, _, _, _, _, _, _, _, _, _, _, _, _, _, _, _, _, _, _, _, _, _, _, _, _, _, _, _, _, _, _, _, _, _, _, _, _, _, _, _, _, _, _, _, _, _, _, _, _, _, _, _, _, _, _, _, _, _, _, _, _, swp2 0 zs (a + r) (a + ch), rfl, (.step (a + r) (a + ch) hsw ⟨by omega, by omega⟩ ⟨by omega, by omega⟩ he), (hx.step hch hchi (by omega) hmx hcm58), (.inr hchi), H⟩, by omega⟩
    ·refine b_val rfl go_none (r_load1 qg28 rfl (H.at 0 rfl) (u_get0 (i := a + r) (by omega) (by omega))) rfl (H.sub x0n) ?_
     refine zl1 13 ?_
     refine b_val rfl go_none (r_load1 qg28 rfl (H.at 0 rfl) (u_get0 (i := a + ch) (by omega) (by omega))) rfl (H.sub x0n) ?_
     refine zd 20 rfl (by kernel_rfl) (fun _ _ _ h => h) (H.sub x0n) (ziS qu25 qs28) rfl ?_
     refine zl1 21 ?_
     refine b_st rfl go_none (m_store1 H 0 qs28 rfl rfl rfl rfl (by rw [List.length_append, uC_length]; omega) (uC_setA0 _ sp (a + r) _ (by omega) (by omega))) (L' := [_]) rfl rfl (fun _ H => (H.sub x0n)) ?_
     intro w H
     refine zd 22 rfl (by kernel_rfl) (fun _ _ _ h => h) (H.sub x0n) (ziS qu25 qs28) rfl ?_
     refine zl1 23 ?_
     refine b_st rfl go_none (m_store1 H 0 qs28 rfl rfl rfl rfl (by rw [List.length_append, uC_length, List.length_set]; omega) (uC_setA0 _ sp (a + ch) _ (by rw [List.length_set]; omega) (by omega))) (L' := [_]) rfl rfl (fun _ H => (H.sub x0n)) ?_
     intro w H
     refine zz (t70 (t6 [])) ?_
     refine x_thenNormal ?_
     refine c_region (n := 76) ⟨rfl, rfl⟩ ?_
     refine zm ?_
     refine za ?_
     refine zb (t70 (t6 [])) ?_
     refine x_blockNormal ?_
     exact ⟨ch, _, rfl, ⟨_, _, _, _, _, _, _, _, _, _, _, _, _, _, _, _, _, _, _, _, _, _, _, _, _, _, _, _, _, _, _, _, _, _, _, _, _, _, _, _, _, _, _, _, _, _, _, _, _, _, _, _, _, _, _, _, _, _, _, _, _, _, _, _, _, _, swp2 0 zs (a + r) (a + ch), rfl, (.step (a + r) (a + ch) hsw ⟨by omega, by omega⟩ ⟨by omega, by omega⟩ he), (hx.step hch hchi (by omega) hmx hcm58), (.inr hchi), H⟩, by omega⟩

set_option maxHeartbeats 4000000 in
theorem heap_specu (b n cap : Nat) (ys : List Int) (sp : List Value) (a z : Nat) (hnl : n = ys.length) (_haz : a ≤ z) (he : z ≤ ys.length) (hl : ys.length ≤ 1000000) (hz : a < z) (w0 : World) (hown : Go.Er.Own w0 [(b, .cells (uC ys ++ sp).toArray 28 (0, 0))]) :
  Calls Try.prog 91 #[.slice (some ⟨b, 0, none⟩) n cap, .int .i64 (a : Nat), .int .i64 (z : Nat)] w0 fun e w => ∃ v, e = .returned v ∧ (v = .tuple #[] ∧ ∃ zs, Sw 0 a z ys zs ∧ Srt 0 id a z zs ∧ St w0 [b] w [(b, .cells (uC zs ++ sp).toArray 28 (0, 0))]) := by
 have H : St w0 [b] w0 [(b, .cells (uC ys ++ sp).toArray 28 (0, 0))] := hown.st
 refine c_enter (args := [.slice (some ⟨b, 0, none⟩) n cap, .int .i64 (a : Nat), .int .i64 (z : Nat)]) (l := t50 (t6 [])) Try.func91 Try.ntmps91 rfl rfl ?_
 refine zq 56 ⟨rfl, rfl⟩ ?_
 refine zm ?_
 refine za ?_
 refine zc (t50 (t6 [])) ?_
 refine zq 56 ⟨rfl, rfl⟩ ?_
 refine za ?_
 refine zc (t50 (t6 [])) ?_
 refine zq 56 ⟨rfl, rfl⟩ ?_
 refine zm ?_
 refine zm ?_
 refine s_val (r_sub rfl rfl (wr (r := ((z - a : Nat) : Int)))) ?_
 refine za ?_
 refine zc (t50 (t6 [])) ?_
 refine c_seq ?_
 refine zq 56 ⟨rfl, rfl⟩ ?_
 refine zm ?_
 refine s_val (r_sub rfl rfl (wr (r := ((z - a - 1 : Nat) : Int)))) ?_
 refine s_val (r_quo rfl rfl (by omega) ((quoI (by omega) (by omega) (by omega)).trans (show _ = (((z - a - 1) / 2 + 1 : Nat) : Int) - 1 by omega))) ?_
 refine za ?_
 refine zc (t50 (t6 [])) ?_
 refine wp_block ?_
 refine c_loop (fun (l0 : List Value) (t : Nat) (l : List Value) (w : World) => ∃ (u18 u19 u20 u21 u22 u23 u24 u25 u26 : Value) (zs : List Int), l = ovr l0 [N_, N_, N_, N_, N_, N_, N_, N_, N_, Y_ (.int .i64 ((t : Int) - 1)), N_, N_, N_, N_, N_, N_, N_, N_, Y_ u18, Y_ u19, Y_ u20, Y_ u21, Y_ u22, Y_ u23, Y_ u24, Y_ u25, Y_ u26] ∧ t ≤ (z - a - 1) / 2 + 1 ∧ Sw 0 a z ys zs ∧ Hp 0 id a t (z - a) zs ∧ St w0 [b] w [(b, .cells (uC zs ++ sp).toArray 28 (0, 0))]) (fun (t : Nat) => t) ((z - a - 1) / 2 + 1) ⟨_, _, _, _, _, _, _, _, _, ys, rfl, by omega, .refl, (Hp.leaves (by omega)), H⟩ ?_
 intro t l w ⟨u18, u19, u20, u21, u22, u23, u24, u25, u26, zs, hl, ht, hsw, hh, H⟩
 obtain rfl := hl.trans (rfl : _ = t50 (t6 []))
 clear hl
 have hlen := hsw.length
 refine c_seq ?_
 refine zq 56 ⟨rfl, rfl⟩ ?_
 refine zm ?_
 refine s_val (r_geq rfl rfl) ?_
 refine zc (t50 (t6 [])) ?_
 refine c_if rfl (fun h19 => ?_) (fun h19 => ?_)
 ·obtain ⟨u, rfl⟩ : ∃ u, t = u + 1 := ⟨t - 1, by omega⟩
  have eu : (((u + 1 : Nat) : Int) - 1) = (u : Nat) := by omega
  rw [eu]
  refine wp_skip ?_
  refine x_thenNormal ?_
  refine c_seq ?_
  refine wp_block ?_
  refine c_region (n := 56) ⟨rfl, rfl⟩ ?_
  refine zm ?_
  refine zm ?_
  refine zm ?_
  refine zm ?_
  refine s_call (r_call Try.call100 (ec rfl (ec rfl (ec rfl (ec rfl en))))) (sift_specu _ _ _ _ _ a u (z - a) (by omega) (by omega) (by omega) (by omega) (hh) _ H.owns0) ?_
  rintro v w ⟨rfl, zs2, hsw2, hh2, HC⟩
  replace H := St.call (F := [_]) (L := []) H HC
  refine zb (t50 (t6 [])) ?_
  refine x_blockNormal ?_
  refine x_thenNormal ?_
  refine c_region (n := 56) ⟨rfl, rfl⟩ ?_
  refine zm ?_
  refine s_val (r_sub rfl rfl (wr (r := (u : Int) - 1))) ?_
  refine za ?_
  refine zb (t50 (t6 [])) ?_
  exact ⟨u, _, rfl, ⟨_, _, _, _, _, _, _, _, _, zs2, rfl, by omega, (hsw.trans (hsw2.mono (Nat.le_refl _) (by omega) (by omega))), hh2, H⟩, by omega⟩
 ·obtain rfl : t = 0 := by omega
  refine wp_exit (x_thenExit (x_thenExit (x_blockHit ?_)))
  refine x_thenNormal ?_
  refine zq 56 ⟨rfl, rfl⟩ ?_
  refine zm ?_
  refine s_val (r_sub rfl rfl (wr (r := ((z - a : Nat) : Int) - 1))) ?_
  refine za ?_
  refine zc (t50 (t6 [])) ?_
  refine wp_block ?_
  refine c_loop (fun (l0 : List Value) (t : Nat) (l : List Value) (w : World) => ∃ (u29 u30 u31 u32 u33 u34 u35 u36 u37 u38 u39 u40 u41 u42 u43 u44 u45 u46 u47 u48 u49 u50 u51 u52 u53 u54 u55 : Value) (zs : List Int), l = ovr l0 [N_, N_, N_, N_, N_, N_, N_, N_, N_, N_, Y_ (.int .i64 ((t : Int) - 1)), N_, N_, N_, N_, N_, N_, N_, N_, N_, N_, N_, N_, N_, N_, N_, N_, N_, N_, Y_ u29, Y_ u30, Y_ u31, Y_ u32, Y_ u33, Y_ u34, Y_ u35, Y_ u36, Y_ u37, Y_ u38, Y_ u39, Y_ u40, Y_ u41, Y_ u42, Y_ u43, Y_ u44, Y_ u45, Y_ u46, Y_ u47, Y_ u48, Y_ u49, Y_ u50, Y_ u51, Y_ u52, Y_ u53, Y_ u54, Y_ u55] ∧ t ≤ z - a ∧ Sw 0 a z ys zs ∧ HpS 0 id a z t zs ∧ St w0 [b] w [(b, .cells (uC zs ++ sp).toArray 28 (0, 0))]) (fun (t : Nat) => t) (z - a) ⟨_, _, _, _, _, _, _, _, _, _, _, _, _, _, _, _, _, _, _, _, _, _, _, _, _, _, _, zs, rfl, by omega, hsw, (HpS.start hh (by omega)), H⟩ ?_
  intro t l w ⟨u29, u30, u31, u32, u33, u34, u35, u36, u37, u38, u39, u40, u41, u42, u43, u44, u45, u46, u47, u48, u49, u50, u51, u52, u53, u54, u55, zs, hl, ht, hsw, hh, H⟩
  obtain rfl := hl.trans (rfl : _ = t50 (t6 []))
  clear hl
  have hlen := hsw.length
  refine c_seq ?_
  refine zq 56 ⟨rfl, rfl⟩ ?_
  refine zm ?_
  refine s_val (r_geq rfl rfl) ?_
  refine zc (t50 (t6 [])) ?_
  refine c_if rfl (fun h30 => ?_) (fun h30 => ?_)
  ·obtain ⟨u, rfl⟩ : ∃ u, t = u + 1 := ⟨t - 1, by omega⟩
   have eu : (((u + 1 : Nat) : Int) - 1) = (u : Nat) := by omega
   rw [eu]
   obtain ⟨g1, g2, g3⟩ := hh.swap (by omega) (by omega)
   have hsw1 : Sw 0 a z ys (swp2 0 zs a (a + u)) := .step a (a + u) hsw ⟨by omega, by omega⟩ ⟨by omega, by omega⟩ he
   have hlen1 := hsw1.length
   refine wp_skip ?_
   refine x_thenNormal ?_
   refine c_seq ?_
   refine wp_block ?_
   refine c_seq ?_
   refine d_begin (sz := 56) ⟨rfl, rfl⟩ (by kernel_rfl) H (H.sub x0n) rfl ?_
   intro w H
   refine zM 0 (H.sub x0n) ?_
   refine zM 1 (H.sub x0n) ?_
   refine zM 2 (H.sub x0n) ?_
   refine zM 3 (H.sub x0n) ?_
   refine zM 4 (H.sub x0n) ?_
   refine zd 5 rfl (by kernel_rfl) (fun _ _ _ h => h) (H.sub x0n) (r_add rfl rfl (wr (r := ((a + u : Nat) : Int)))) rfl ?_
   refine zM 6 (H.sub x0n) ?_
   refine zM 7 (H.sub x0n) ?_
   refine zM 8 (H.sub x0n) ?_
   refine zd 9 rfl (by kernel_rfl) (fun _ _ _ h => h) (H.sub x0n) (r_add rfl rfl (wr (r := ((a + u : Nat) : Int)))) rfl ?_
   refine zd 10 rfl (by kernel_rfl) (fun _ _ _ h => h) (H.sub x0n) (ziS qu25 qs28) rfl ?_
   refine zM 12 (H.sub x0n) ?_
   refine zM 13 (H.sub x0n) ?_
   refine zd 14 rfl (by kernel_rfl) (fun _ _ _ h => h) (H.sub x0n) (ziS qu25 qs28) rfl ?_
   refine zl2 11 15 ?_ ?_
   ·refine b_val rfl go_none (r_load1 qg28 rfl (H.at 0 rfl) (u_get0 (i := a + u) (by omega) (by omega))) rfl (H.sub x0n) ?_
    refine zl1 15 ?_
    refine b_val rfl go_none (r_load1 qg28 rfl (H.at 0 rfl) (u_get0 (i := a) (by omega) (by omega))) rfl (H.sub x0n) ?_
    refine zd 16 rfl (by kernel_rfl) (fun _ _ _ h => h) (H.sub x0n) (ziS qu25 qs28) rfl ?_
    refine zl1 17 ?_
    refine b_st rfl go_none (m_store1 H 0 qs28 rfl rfl rfl rfl (by rw [List.length_append, uC_length]; omega) (uC_setA0 _ sp (a) _ (by omega) (by omega))) (L' := [_]) rfl rfl (fun _ H => (H.sub x0n)) ?_
    intro w H
    refine zd 18 rfl (by kernel_rfl) (fun _ _ _ h => h) (H.sub x0n) (ziS qu25 qs28) rfl ?_
    refine zl1 19 ?_
    refine b_st rfl go_none (m_store1 H 0 qs28 rfl rfl rfl rfl (by rw [List.length_append, uC_length, List.length_set]; omega) (uC_setA0 _ sp (a + u) _ (by rw [List.length_set]; omega) (by omega))) (L' := [_]) rfl rfl (fun _ H => (H.sub x0n)) ?_
    intro w H
    refine zz (t50 (t6 [])) ?_
    refine x_thenNormal ?_
    refine c_region (n := 56) ⟨rfl, rfl⟩ ?_
    refine zm ?_
    refine zm ?_
    refine zm ?_
    refine zm ?_
    refine s_call (r_call Try.call100 (ec rfl (ec rfl (ec rfl (ec rfl en))))) (sift_specu _ _ _ _ _ a 0 u (by omega) (by omega) (by omega) (by omega) (g1) _ H.owns0) ?_
    rintro v w ⟨rfl, zs2, hsw2, hh2, HC⟩
    replace H := St.call (F := [_]) (L := []) H HC
    refine zb (t50 (t6 [])) ?_
    refine x_blockNormal ?_
    refine x_thenNormal ?_
    refine c_region (n := 56) ⟨rfl, rfl⟩ ?_
    refine zm ?_
    refine s_val (r_sub rfl rfl (wr (r := (u : Int) - 1))) ?_
    refine za ?_
    refine zb (t50 (t6 [])) ?_
    exact ⟨u, _, rfl, ⟨_, _, _, _, _, _, _, _, _, _, _, _, _, _, _, _, _, _, _, _, _, _, _, _, _, _, _, zs2, rfl, by omega, (hsw1.trans (hsw2.mono (Nat.le_refl _) (by omega) (by omega))), (HpS.next g2 g3 hsw2 hh2), H⟩, by omega⟩
   ·refine b_val rfl go_none (r_load1 qg28 rfl (H.at 0 rfl) (u_get0 (i := a) (by omega) (by omega))) rfl (H.sub x0n) ?_
    refine zl1 11 ?_
    refine b_val rfl go_none (r_load1 qg28 rfl (H.at 0 rfl) (u_get0 (i := a + u) (by omega) (by omega))) rfl (H.sub x0n) ?_
    refine zd 16 rfl (by kernel_rfl) (fun _ _ _ h => h) (H.sub x0n) (ziS qu25 qs28) rfl ?_
    refine zl1 17 ?_
    refine b_st rfl go_none (m_store1 H 0 qs28 rfl rfl rfl rfl (by rw [List.length_append, uC_length]; omega) (uC_setA0 _ sp (a) _ (by omega) (by omega))) (L' := [_]) rfl rfl (fun _ H => (H.sub x0n)) ?_
    intro w H
    refine zd 18 rfl (by kernel_rfl) (fun _ _ _ h => h) (H.sub x0n) (ziS qu25 qs28) rfl ?_
    refine zl1 19 ?_
    refine b_st rfl go_none (m_store1 H 0 qs28 rfl rfl rfl rfl (by rw [List.length_append, uC_length, List.length_set]; omega) (uC_setA0 _ sp (a + u) _ (by rw [List.length_set]; omega) (by omega))) (L' := [_]) rfl rfl (fun _ H => (H.sub x0n)) ?_
    intro w H
    refine zz (t50 (t6 [])) ?_
    refine x_thenNormal ?_
    refine c_region (n := 56) ⟨rfl, rfl⟩ ?_
    refine zm ?_
    refine zm ?_
    refine zm ?_
    refine zm ?_
    refine s_call (r_call Try.call100 (ec rfl (ec rfl (ec rfl (ec rfl en))))) (sift_specu _ _ _ _ _ a 0 u (by omega) (by omega) (by omega) (by omega) (g1) _ H.owns0) ?_
    rintro v w ⟨rfl, zs2, hsw2, hh2, HC⟩
    replace H := St.call (F := [_]) (L := []) H HC
    refine zb (t50 (t6 [])) ?_
    refine x_blockNormal ?_
    refine x_thenNormal ?_
    refine c_region (n := 56) ⟨rfl, rfl⟩ ?_
    refine zm ?_
    refine s_val (r_sub rfl rfl (wr (r := (u : Int) - 1))) ?_
    refine za ?_
    refine zb (t50 (t6 [])) ?_
    exact ⟨u, _, rfl, ⟨_, _, _, _, _, _, _, _, _, _, _, _, _, _, _, _, _, _, _, _, _, _, _, _, _, _, _, zs2, rfl, by omega, (hsw1.trans (hsw2.mono (Nat.le_refl _) (by omega) (by omega))), (HpS.next g2 g3 hsw2 hh2), H⟩, by omega⟩
  ·obtain rfl : t = 0 := by omega
   refine wp_exit (x_thenExit (x_thenExit (x_blockHit ?_)))
   refine e_end (res0 rfl) ⟨_, rfl, ?_⟩
   exact ⟨rfl, zs, hsw, hh.fin, H⟩

end Go.Proofs.Ytobfnieebiakeaa

