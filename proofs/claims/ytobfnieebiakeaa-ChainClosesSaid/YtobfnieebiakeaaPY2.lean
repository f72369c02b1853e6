import Derived.Test.YtobfnieebiakeaaPM
import Derived.Test.YtobfnieebiakeaaPY0
namespace Go.Proofs.Ytobfnieebiakeaa
open Go Go.Er

set_option maxHeartbeats 4000000 in
set_option maxRecDepth 20000 in
theorem part_specu (b n cap : Nat) (ys : List Int) (sp : List Value) (a z : Nat) (pv : Nat) (hnl : n = ys.length) (haz : a ≤ z) (he : z ≤ ys.length) (hl : ys.length ≤ 1000000) (hpa : a ≤ pv) (hpe : pv < z) (w0 : World) (hown : Go.Er.Own w0 [(b, .cells (uC ys ++ sp).toArray 28 (0, 0))]) :
  Calls Try.prog 98 #[.slice (some ⟨b, 0, none⟩) n cap, .int .i64 (a : Nat), .int .i64 (z : Nat), .int .i64 (pv : Nat)] w0 fun e w => ∃ v, e = .returned v ∧ (∃ (m : Nat) (r : Bool) (zs : List Int), v = .tuple #[.int .i64 m, .bool r] ∧ Sw 0 a z ys zs ∧ Parted 0 id a z m zs ∧ St w0 [b] w [(b, .cells (uC zs ++ sp).toArray 28 (0, 0))]) := by
 have H : St w0 [b] w0 [(b, .cells (uC ys ++ sp).toArray 28 (0, 0))] := hown.st
 refine c_enter (args := [.slice (some ⟨b, 0, none⟩) n cap, .int .i64 (a : Nat), .int .i64 (z : Nat), .int .i64 (pv : Nat)]) (l := t100 (t60 (t8 []))) Try.func98 Try.ntmps98 rfl rfl ?_
 refine zq 168 ⟨rfl, rfl⟩ ?_
 refine za ?_
 refine za ?_
 refine zc (t100 (t60 (t8 []))) ?_
 refine c_cut (fun (l0 : List Value) (l : List Value) (w : World) => ∃ (u12 u13 u14 u15 u16 u17 u18 u19 u20 u21 u22 u23 u24 u25 : Value) , l = ovr l0 [N_, N_, N_, N_, N_, N_, N_, N_, N_, N_, N_, N_, Y_ u12, Y_ u13, Y_ u14, Y_ u15, Y_ u16, Y_ u17, Y_ u18, Y_ u19, Y_ u20, Y_ u21, Y_ u22, Y_ u23, Y_ u24, Y_ u25] ∧ St w0 [b] w [(b, .cells (uC (swp2 0 ys a pv) ++ sp).toArray 28 (0, 0))]) ?_ ?_
 ·refine d_begin (sz := 168) ⟨rfl, rfl⟩ (by kernel_rfl) H (H.sub x0n) rfl ?_
  intro w H
  refine zM 0 (H.sub x0n) ?_
  refine zM 1 (H.sub x0n) ?_
  refine zM 2 (H.sub x0n) ?_
  refine zM 3 (H.sub x0n) ?_
  refine zM 4 (H.sub x0n) ?_
  refine zM 5 (H.sub x0n) ?_
  refine zd 6 rfl (by kernel_rfl) (fun _ _ _ h => h) (H.sub x0n) (ziS qu25 qs28) rfl ?_
  refine zM 8 (H.sub x0n) ?_
  refine zM 9 (H.sub x0n) ?_
  refine zd 10 rfl (by kernel_rfl) (fun _ _ _ h => h) (H.sub x0n) (ziS qu25 qs28) rfl ?_
  refine zl2 7 11 ?_ ?_
  ·refine b_val rfl go_none (r_load1 qg28 rfl (H.at 0 rfl) (u_get0 (i := pv) (by omega) (by omega))) rfl (H.sub x0n) ?_
   refine zl1 11 ?_
   refine b_val rfl go_none (r_load1 qg28 rfl (H.at 0 rfl) (u_get0 (i := a) (by omega) (by omega))) rfl (H.sub x0n) ?_
   refine zd 12 rfl (by kernel_rfl) (fun _ _ _ h => h) (H.sub x0n) (ziS qu25 qs28) rfl ?_
   refine zl1 13 ?_
   refine b_st rfl go_none (m_store1 H 0 qs28 rfl rfl rfl rfl (by rw [List.length_append, uC_length]; omega) (uC_setA0 _ sp (a) _ (by omega) (by omega))) (L' := [_]) rfl rfl (fun _ H => (H.sub x0n)) ?_
   intro w H
   refine zd 14 rfl (by kernel_rfl) (fun _ _ _ h => h) (H.sub x0n) (ziS qu25 qs28) rfl ?_
   refine zl1 15 ?_
   refine b_st rfl go_none (m_store1 H 0 qs28 rfl rfl rfl rfl (by rw [List.length_append, uC_length, List.length_set]; omega) (uC_setA0 _ sp (pv) _ (by rw [List.length_set]; omega) (by omega))) (L' := [_]) rfl rfl (fun _ H => (H.sub x0n)) ?_
   intro w H
   refine zz (t100 (t60 (t8 []))) ?_
   exact ⟨_, rfl, ⟨_, _, _, _, _, _, _, _, _, _, _, _, _, _, rfl, H⟩⟩
  ·refine b_val rfl go_none (r_load1 qg28 rfl (H.at 0 rfl) (u_get0 (i := a) (by omega) (by omega))) rfl (H.sub x0n) ?_
   refine zl1 7 ?_
   refine b_val rfl go_none (r_load1 qg28 rfl (H.at 0 rfl) (u_get0 (i := pv) (by omega) (by omega))) rfl (H.sub x0n) ?_
   refine zd 12 rfl (by kernel_rfl) (fun _ _ _ h => h) (H.sub x0n) (ziS qu25 qs28) rfl ?_
   refine zl1 13 ?_
   refine b_st rfl go_none (m_store1 H 0 qs28 rfl rfl rfl rfl (by rw [List.length_append, uC_length]; omega) (uC_setA0 _ sp (a) _ (by omega) (by omega))) (L' := [_]) rfl rfl (fun _ H => (H.sub x0n)) ?_
   intro w H
   refine zd 14 rfl (by kernel_rfl) (fun _ _ _ h => h) (H.sub x0n) (ziS qu25 qs28) rfl ?_
   refine zl1 15 ?_
   refine b_st rfl go_none (m_store1 H 0 qs28 rfl rfl rfl rfl (by rw [List.length_append, uC_length, List.length_set]; omega) (uC_setA0 _ sp (pv) _ (by rw [List.length_set]; omega) (by omega))) (L' := [_]) rfl rfl (fun _ H => (H.sub x0n)) ?_
   intro w H
   refine zz (t100 (t60 (t8 []))) ?_
   exact ⟨_, rfl, ⟨_, _, _, _, _, _, _, _, _, _, _, _, _, _, rfl, H⟩⟩
 ·rintro l w ⟨u12, u13, u14, u15, u16, u17, u18, u19, u20, u21, u22, u23, u24, u25, hl, H⟩
  obtain rfl := hl.trans (rfl : _ = t100 (t60 (t8 [])))
  clear hl
  obtain ⟨zs, hzs⟩ : ∃ zs, zs = swp2 0 ys a pv := ⟨_, rfl⟩
  rw [← hzs] at H
  have hsw : Sw 0 a z ys zs := by rw [hzs]; exact .step a pv .refl ⟨by omega, by omega⟩ ⟨by omega, by omega⟩ he
  have hlen := hsw.length
  obtain ⟨j, hj⟩ : ∃ j : Nat, j = z - 1 := ⟨_, rfl⟩
  obtain ⟨I, hI⟩ : ∃ I : Nat, I = a + 1 := ⟨_, rfl⟩
  obtain ⟨J, hJ⟩ : ∃ J : Nat, J = j := ⟨_, rfl⟩
  have hp : Part 0 id a z (a + 1) j zs := by rw [hj]; exact Part.start (by omega)
  refine zq 168 ⟨rfl, rfl⟩ ?_
  refine zm ?_
  refine zj ?_
  refine zm ?_
  refine s_val (r_sub rfl rfl (wr (r := (j : Int)))) ?_
  refine za ?_
  refine za ?_
  refine zc (t100 (t60 (t8 []))) ?_
  refine c_cut (fun (l0 : List Value) (l : List Value) (w : World) => ∃ (u30 u31 u32 u33 u34 u35 u36 u37 u38 u39 u40 u41 u42 u43 u44 u45 : Value) (i : Nat), l = ovr l0 [N_, N_, N_, N_, N_, N_, N_, N_, N_, N_, Y_ (.int .i64 i), N_, N_, N_, N_, N_, N_, N_, N_, N_, N_, N_, N_, N_, N_, N_, N_, N_, N_, N_, Y_ u30, Y_ u31, Y_ u32, Y_ u33, Y_ u34, Y_ u35, Y_ u36, Y_ u37, Y_ u38, Y_ u39, Y_ u40, Y_ u41, Y_ u42, Y_ u43, Y_ u44, Y_ u45] ∧ Part 0 id a z i j zs ∧ (J < i ∨ ¬ kk 0 id zs i < kk 0 id zs a) ∧ I ≤ i ∧ St w0 [b] w [(b, .cells (uC zs ++ sp).toArray 28 (0, 0))]) ?_ ?_
  ·refine wp_block ?_
   refine c_loop (fun (l0 : List Value) (i : Nat) (l : List Value) (w : World) => ∃ (u30 u31 u32 u33 u34 u35 u36 u37 u38 u39 u40 u41 u42 u43 u44 u45 : Value) , l = ovr l0 [N_, N_, N_, N_, N_, N_, N_, N_, N_, N_, Y_ (.int .i64 i), N_, N_, N_, N_, N_, N_, N_, N_, N_, N_, N_, N_, N_, N_, N_, N_, N_, N_, N_, Y_ u30, Y_ u31, Y_ u32, Y_ u33, Y_ u34, Y_ u35, Y_ u36, Y_ u37, Y_ u38, Y_ u39, Y_ u40, Y_ u41, Y_ u42, Y_ u43, Y_ u44, Y_ u45] ∧ Part 0 id a z i j zs ∧ I ≤ i ∧ St w0 [b] w [(b, .cells (uC zs ++ sp).toArray 28 (0, 0))]) (fun (i : Nat) => z - i) (a + 1) ⟨_, _, _, _, _, _, _, _, _, _, _, _, _, _, _, _, rfl, hp, by omega, H⟩ ?_
   intro i l w ⟨u30, u31, u32, u33, u34, u35, u36, u37, u38, u39, u40, u41, u42, u43, u44, u45, hl, hp, hiI, H⟩
   obtain rfl := hl.trans (rfl : _ = t100 (t60 (t8 [])))
   clear hl
   have hlen := hsw.length
   have hai := hp.ai
   have hij := hp.ij
   have hje := hp.jb
   refine c_seq ?_
   refine c_seq ?_
   refine d_begin (sz := 168) ⟨rfl, rfl⟩ (by kernel_rfl) H (H) rfl ?_
   intro w H
   refine zM 0 H ?_
   refine zM 1 H ?_
   refine zd 2 rfl (by kernel_rfl) (fun _ _ _ h => h) H (r_leq rfl rfl) rfl ?_
   refine d_part (fun h32 => ?_) (fun h32 => ?_)
   ·refine zM 3 H ?_
    refine zG 4 rfl rfl rfl (by kernel_rfl) (fun _ _ _ h => h) H (r_move rfl) rfl ?_
    refine zG 5 rfl rfl rfl (by kernel_rfl) (fun _ _ _ h => h) H (r_move rfl) rfl ?_
    refine zG 6 rfl rfl rfl (by kernel_rfl) (fun _ _ _ h => h) H (ziS qu25 qs28) rfl ?_
    refine zGh 7 rfl rfl rfl (by kernel_rfl) (fun _ _ _ h => h) H (fun HS => r_load1 qg28 rfl (HS.at 0 rfl) (u_get0 (i := i) (by omega) (by omega))) rfl ?_
    refine zG 8 rfl rfl rfl (by kernel_rfl) (fun _ _ _ h => h) H (r_move rfl) rfl ?_
    refine zG 9 rfl rfl rfl (by kernel_rfl) (fun _ _ _ h => h) H (r_move rfl) rfl ?_
    refine zG 10 rfl rfl rfl (by kernel_rfl) (fun _ _ _ h => h) H (ziS qu25 qs28) rfl ?_
    refine zGh 11 rfl rfl rfl (by kernel_rfl) (fun _ _ _ h => h) H (fun HS => r_load1 qg28 rfl (HS.at 0 rfl) (u_get0 (i := a) (by omega) (by omega))) rfl ?_
    refine zl1 12 ?_
    refine b_call rfl (go_some rfl rfl) (r_call qc96 (ec rfl (ec rfl en))) (less_spec _ _ _) rfl ?_
    rintro v w ⟨rfl, HC⟩
    replace H := H.quiet HC
    refine ⟨H, ?_⟩
    refine zd 13 rfl (by kernel_rfl) (fun _ _ _ h => h) H (r_pickt rfl rfl) rfl ?_
    refine zz (t100 (t60 (t8 []))) ?_
    refine x_thenNormal ?_
    refine c_if rfl (fun h43 => ?_) (fun h43 => ?_)
    ·have hcm47 := h43
     refine wp_skip ?_
     refine x_thenNormal ?_
     refine wp_block ?_
     refine c_region (n := 168) ⟨rfl, rfl⟩ ?_
     refine zm ?_
     refine zj ?_
     refine za ?_
     refine zb (t100 (t60 (t8 []))) ?_
     refine x_blockNormal ?_
     exact ⟨i + 1, _, rfl, ⟨_, _, _, _, _, _, _, _, _, _, _, _, _, _, _, _, rfl, (hp.up (by omega) hcm47), by omega, H⟩, by omega⟩
    ·have hcm47 := h43
     refine wp_exit (x_thenExit (x_thenExit (x_blockHit ?_)))
     exact ⟨_, rfl, ⟨_, _, _, _, _, _, _, _, _, _, _, _, _, _, _, _, _, rfl, hp, .inr hcm47, hiI, H⟩⟩
   ·refine zM 3 H ?_
    refine zN 4 H ?_
    refine zN 5 H ?_
    refine zN 6 H ?_
    refine zN 7 H ?_
    refine zN 8 H ?_
    refine zN 9 H ?_
    refine zN 10 H ?_
    refine zN 11 H ?_
    refine zN 12 H ?_
    refine zd 13 rfl (by kernel_rfl) (fun _ _ _ h => h) H (r_pickf rfl rfl) rfl ?_
    refine zz (t100 (t60 (t8 []))) ?_
    refine x_thenNormal ?_
    refine c_iff rfl ?_
    refine wp_exit (x_thenExit (x_thenExit (x_blockHit ?_)))
    exact ⟨_, rfl, ⟨_, _, _, _, _, _, _, _, _, _, _, _, _, _, _, _, _, rfl, hp, .inl (by omega), hiI, H⟩⟩
  ·rintro l w ⟨u30, u31, u32, u33, u34, u35, u36, u37, u38, u39, u40, u41, u42, u43, u44, u45, i, hl, hp, hxu, hiI, H⟩
   obtain rfl := hl.trans (rfl : _ = t100 (t60 (t8 [])))
   clear hl
   have hlen := hsw.length
   have hai := hp.ai
   have hij := hp.ij
   have hje := hp.jb
   refine c_cut (fun (l0 : List Value) (l : List Value) (w : World) => ∃ (u46 u47 u48 u49 u50 u51 u52 u53 u54 u55 u56 u57 u58 u59 u60 u61 u62 : Value) (j : Nat), l = ovr l0 [N_, N_, N_, N_, N_, N_, N_, N_, N_, N_, N_, Y_ (.int .i64 j), N_, N_, N_, N_, N_, N_, N_, N_, N_, N_, N_, N_, N_, N_, N_, N_, N_, N_, N_, N_, N_, N_, N_, N_, N_, N_, N_, N_, N_, N_, N_, N_, N_, N_, Y_ u46, Y_ u47, Y_ u48, Y_ u49, Y_ u50, Y_ u51, Y_ u52, Y_ u53, Y_ u54, Y_ u55, Y_ u56, Y_ u57, Y_ u58, Y_ u59, Y_ u60, Y_ u61, Y_ u62] ∧ Part 0 id a z i j zs ∧ (j < i ∨ kk 0 id zs j < kk 0 id zs a) ∧ j ≤ J ∧ St w0 [b] w [(b, .cells (uC zs ++ sp).toArray 28 (0, 0))]) ?_ ?_
   ·refine wp_block ?_
    refine c_loop (fun (l0 : List Value) (j : Nat) (l : List Value) (w : World) => ∃ (u46 u47 u48 u49 u50 u51 u52 u53 u54 u55 u56 u57 u58 u59 u60 u61 u62 : Value) , l = ovr l0 [N_, N_, N_, N_, N_, N_, N_, N_, N_, N_, N_, Y_ (.int .i64 j), N_, N_, N_, N_, N_, N_, N_, N_, N_, N_, N_, N_, N_, N_, N_, N_, N_, N_, N_, N_, N_, N_, N_, N_, N_, N_, N_, N_, N_, N_, N_, N_, N_, N_, Y_ u46, Y_ u47, Y_ u48, Y_ u49, Y_ u50, Y_ u51, Y_ u52, Y_ u53, Y_ u54, Y_ u55, Y_ u56, Y_ u57, Y_ u58, Y_ u59, Y_ u60, Y_ u61, Y_ u62] ∧ Part 0 id a z i j zs ∧ j ≤ J ∧ St w0 [b] w [(b, .cells (uC zs ++ sp).toArray 28 (0, 0))]) (fun (j : Nat) => j) j ⟨_, _, _, _, _, _, _, _, _, _, _, _, _, _, _, _, _, rfl, hp, by omega, H⟩ ?_
    intro j l w ⟨u46, u47, u48, u49, u50, u51, u52, u53, u54, u55, u56, u57, u58, u59, u60, u61, u62, hl, hp, hjJ, H⟩
    obtain rfl := hl.trans (rfl : _ = t100 (t60 (t8 [])))
    clear hl
    have hlen := hsw.length
    have hai := hp.ai
    have hij := hp.ij
    have hje := hp.jb
    refine c_seq ?_
    refine c_seq ?_
    refine d_begin (sz := 168) ⟨rfl, rfl⟩ (by kernel_rfl) H (H) rfl ?_
    intro w H
    refine zM 0 H ?_
    refine zM 1 H ?_
    refine zd 2 rfl (by kernel_rfl) (fun _ _ _ h => h) H (r_leq rfl rfl) rfl ?_
    refine d_part (fun h48 => ?_) (fun h48 => ?_)
    ·refine zM 3 H ?_
     refine zG 4 rfl rfl rfl (by kernel_rfl) (fun _ _ _ h => h) H (r_move rfl) rfl ?_
     refine zG 5 rfl rfl rfl (by kernel_rfl) (fun _ _ _ h => h) H (r_move rfl) rfl ?_
     refine zG 6 rfl rfl rfl (by kernel_rfl) (fun _ _ _ h => h) H (ziS qu25 qs28) rfl ?_
     refine zGh 7 rfl rfl rfl (by kernel_rfl) (fun _ _ _ h => h) H (fun HS => r_load1 qg28 rfl (HS.at 0 rfl) (u_get0 (i := j) (by omega) (by omega))) rfl ?_
     refine zG 8 rfl rfl rfl (by kernel_rfl) (fun _ _ _ h => h) H (r_move rfl) rfl ?_
     refine zG 9 rfl rfl rfl (by kernel_rfl) (fun _ _ _ h => h) H (r_move rfl) rfl ?_
     refine zG 10 rfl rfl rfl (by kernel_rfl) (fun _ _ _ h => h) H (ziS qu25 qs28) rfl ?_
     refine zGh 11 rfl rfl rfl (by kernel_rfl) (fun _ _ _ h => h) H (fun HS => r_load1 qg28 rfl (HS.at 0 rfl) (u_get0 (i := a) (by omega) (by omega))) rfl ?_
     refine zl1 12 ?_
     refine b_call rfl (go_some rfl rfl) (r_call qc96 (ec rfl (ec rfl en))) (less_spec _ _ _) rfl ?_
     rintro v w ⟨rfl, HC⟩
     replace H := H.quiet HC
     refine ⟨H, ?_⟩
     refine zG 13 rfl rfl rfl (by kernel_rfl) (fun _ _ _ h => h) H (r_notp rfl) rfl ?_
     refine zd 14 rfl (by kernel_rfl) (fun _ _ _ h => h) H (r_pickt rfl rfl) rfl ?_
     refine zz (t100 (t60 (t8 []))) ?_
     refine x_thenNormal ?_
     refine c_if rfl (fun h60 => ?_) (fun h60 => ?_)
     ·have hcm66 := h60
      refine wp_skip ?_
      refine x_thenNormal ?_
      refine wp_block ?_
      refine c_region (n := 168) ⟨rfl, rfl⟩ ?_
      refine zm ?_
      refine s_val (r_sub rfl rfl (wr (r := ((j - 1 : Nat) : Int)))) ?_
      refine za ?_
      refine zb (t100 (t60 (t8 []))) ?_
      refine x_blockNormal ?_
      exact ⟨j - 1, _, rfl, ⟨_, _, _, _, _, _, _, _, _, _, _, _, _, _, _, _, _, rfl, (hp.down (by omega) hcm66), by omega, H⟩, by omega⟩
     ·have hcm66 := Decidable.not_not.1 h60
      refine wp_exit (x_thenExit (x_thenExit (x_blockHit ?_)))
      exact ⟨_, rfl, ⟨_, _, _, _, _, _, _, _, _, _, _, _, _, _, _, _, _, _, rfl, hp, .inr hcm66, hjJ, H⟩⟩
    ·refine zM 3 H ?_
     refine zN 4 H ?_
     refine zN 5 H ?_
     refine zN 6 H ?_
     refine zN 7 H ?_
     refine zN 8 H ?_
     refine zN 9 H ?_
     refine zN 10 H ?_
     refine zN 11 H ?_
     refine zN 12 H ?_
     refine zN 13 H ?_
     refine zd 14 rfl (by kernel_rfl) (fun _ _ _ h => h) H (r_pickf rfl rfl) rfl ?_
     refine zz (t100 (t60 (t8 []))) ?_
     refine x_thenNormal ?_
     refine c_iff rfl ?_
     refine wp_exit (x_thenExit (x_thenExit (x_blockHit ?_)))
     exact ⟨_, rfl, ⟨_, _, _, _, _, _, _, _, _, _, _, _, _, _, _, _, _, _, rfl, hp, .inl (by omega), hjJ, H⟩⟩
   ·rintro l w ⟨u46, u47, u48, u49, u50, u51, u52, u53, u54, u55, u56, u57, u58, u59, u60, u61, u62, j, hl, hp, hxd, hjJ, H⟩
    obtain rfl := hl.trans (rfl : _ = t100 (t60 (t8 [])))
    clear hl
    have hlen := hsw.length
    have hai := hp.ai
    have hij := hp.ij
    have hje := hp.jb
    refine c_seq ?_
    refine zq 168 ⟨rfl, rfl⟩ ?_
    refine zm ?_
    refine zm ?_
    refine s_val (r_gtr rfl rfl) ?_
    refine zc (t100 (t60 (t8 []))) ?_
    refine c_if rfl (fun h65 => ?_) (fun h65 => ?_)
    ·refine c_seq ?_
     refine d_begin (sz := 168) ⟨rfl, rfl⟩ (by kernel_rfl) H (H.sub x0n) rfl ?_
     intro w H
     refine zM 0 (H.sub x0n) ?_
     refine zM 1 (H.sub x0n) ?_
     refine zM 2 (H.sub x0n) ?_
     refine zM 3 (H.sub x0n) ?_
     refine zM 4 (H.sub x0n) ?_
     refine zM 5 (H.sub x0n) ?_
     refine zd 6 rfl (by kernel_rfl) (fun _ _ _ h => h) (H.sub x0n) (ziS qu25 qs28) rfl ?_
     refine zM 8 (H.sub x0n) ?_
     refine zM 9 (H.sub x0n) ?_
     refine zd 10 rfl (by kernel_rfl) (fun _ _ _ h => h) (H.sub x0n) (ziS qu25 qs28) rfl ?_
     refine zl2 7 11 ?_ ?_
     ·refine b_val rfl go_none (r_load1 qg28 rfl (H.at 0 rfl) (u_get0 (i := a) (by omega) (by omega))) rfl (H.sub x0n) ?_
      refine zl1 11 ?_
      refine b_val rfl go_none (r_load1 qg28 rfl (H.at 0 rfl) (u_get0 (i := j) (by omega) (by omega))) rfl (H.sub x0n) ?_
      refine zd 12 rfl (by kernel_rfl) (fun _ _ _ h => h) (H.sub x0n) (ziS qu25 qs28) rfl ?_
      refine zl1 13 ?_
      refine b_st rfl go_none (m_store1 H 0 qs28 rfl rfl rfl rfl (by rw [List.length_append, uC_length]; omega) (uC_setA0 _ sp (j) _ (by omega) (by omega))) (L' := [_]) rfl rfl (fun _ H => (H.sub x0n)) ?_
      intro w H
      refine zd 14 rfl (by kernel_rfl) (fun _ _ _ h => h) (H.sub x0n) (ziS qu25 qs28) rfl ?_
      refine zl1 15 ?_
      refine b_st rfl go_none (m_store1 H 0 qs28 rfl rfl rfl rfl (by rw [List.length_append, uC_length, List.length_set]; omega) (uC_setA0 _ sp (a) _ (by rw [List.length_set]; omega) (by omega))) (L' := [_]) rfl rfl (fun _ H => (H.sub x0n)) ?_
      intro w H
      refine zz (t100 (t60 (t8 []))) ?_
      refine x_thenNormal ?_
      refine zq 168 ⟨rfl, rfl⟩ ?_
      refine zm ?_
      refine za ?_
      refine za ?_
      refine zc (t100 (t60 (t8 []))) ?_
      refine wp_ret (x_thenRet ?_)
      refine zw (res2 rfl rfl rfl) ?_
      exact ⟨_, _, _, rfl, (.step j a hsw ⟨by omega, by omega⟩ ⟨by omega, by omega⟩ he), hp.fin (by omega) (by omega), H⟩
     ·refine b_val rfl go_none (r_load1 qg28 rfl (H.at 0 rfl) (u_get0 (i := j) (by omega) (by omega))) rfl (H.sub x0n) ?_
      refine zl1 7 ?_
      refine b_val rfl go_none (r_load1 qg28 rfl (H.at 0 rfl) (u_get0 (i := a) (by omega) (by omega))) rfl (H.sub x0n) ?_
      refine zd 12 rfl (by kernel_rfl) (fun _ _ _ h => h) (H.sub x0n) (ziS qu25 qs28) rfl ?_
      refine zl1 13 ?_
      refine b_st rfl go_none (m_store1 H 0 qs28 rfl rfl rfl rfl (by rw [List.length_append, uC_length]; omega) (uC_setA0 _ sp (j) _ (by omega) (by omega))) (L' := [_]) rfl rfl (fun _ H => (H.sub x0n)) ?_
      intro w H
      refine zd 14 rfl (by kernel_rfl) (fun _ _ _ h => h) (H.sub x0n) (ziS qu25 qs28) rfl ?_
      refine zl1 15 ?_
      refine b_st rfl go_none (m_store1 H 0 qs28 rfl rfl rfl rfl (by rw [List.length_append, uC_length, List.length_set]; omega) (uC_setA0 _ sp (a) _ (by rw [List.length_set]; omega) (by omega))) (L' := [_]) rfl rfl (fun _ H => (H.sub x0n)) ?_
      intro w H
      refine zz (t100 (t60 (t8 []))) ?_
      refine x_thenNormal ?_
      refine zq 168 ⟨rfl, rfl⟩ ?_
      refine zm ?_
      refine za ?_
      refine za ?_
      refine zc (t100 (t60 (t8 []))) ?_
      refine wp_ret (x_thenRet ?_)
      refine zw (res2 rfl rfl rfl) ?_
      exact ⟨_, _, _, rfl, (.step j a hsw ⟨by omega, by omega⟩ ⟨by omega, by omega⟩ he), hp.fin (by omega) (by omega), H⟩
    ·refine wp_skip ?_
     refine x_thenNormal ?_
     refine c_cut (fun (l0 : List Value) (l : List Value) (w : World) => ∃ (u81 u82 u83 u84 u85 u86 u87 u88 u89 u90 u91 u92 u93 u94 : Value) , l = ovr l0 [N_, N_, N_, N_, N_, N_, N_, N_, N_, N_, N_, N_, N_, N_, N_, N_, N_, N_, N_, N_, N_, N_, N_, N_, N_, N_, N_, N_, N_, N_, N_, N_, N_, N_, N_, N_, N_, N_, N_, N_, N_, N_, N_, N_, N_, N_, N_, N_, N_, N_, N_, N_, N_, N_, N_, N_, N_, N_, N_, N_, N_, N_, N_, N_, N_, N_, N_, N_, N_, N_, N_, N_, N_, N_, N_, N_, N_, N_, N_, N_, N_, Y_ u81, Y_ u82, Y_ u83, Y_ u84, Y_ u85, Y_ u86, Y_ u87, Y_ u88, Y_ u89, Y_ u90, Y_ u91, Y_ u92, Y_ u93, Y_ u94] ∧ St w0 [b] w [(b, .cells (uC (swp2 0 zs i j) ++ sp).toArray 28 (0, 0))]) ?_ ?_
     ·refine d_begin (sz := 168) ⟨rfl, rfl⟩ (by kernel_rfl) H (H.sub x0n) rfl ?_
      intro w H
      refine zM 0 (H.sub x0n) ?_
      refine zM 1 (H.sub x0n) ?_
      refine zM 2 (H.sub x0n) ?_
      refine zM 3 (H.sub x0n) ?_
      refine zM 4 (H.sub x0n) ?_
      refine zM 5 (H.sub x0n) ?_
      refine zd 6 rfl (by kernel_rfl) (fun _ _ _ h => h) (H.sub x0n) (ziS qu25 qs28) rfl ?_
      refine zM 8 (H.sub x0n) ?_
      refine zM 9 (H.sub x0n) ?_
      refine zd 10 rfl (by kernel_rfl) (fun _ _ _ h => h) (H.sub x0n) (ziS qu25 qs28) rfl ?_
      refine zl2 7 11 ?_ ?_
      ·refine b_val rfl go_none (r_load1 qg28 rfl (H.at 0 rfl) (u_get0 (i := j) (by omega) (by omega))) rfl (H.sub x0n) ?_
       refine zl1 11 ?_
       refine b_val rfl go_none (r_load1 qg28 rfl (H.at 0 rfl) (u_get0 (i := i) (by omega) (by omega))) rfl (H.sub x0n) ?_
       refine zd 12 rfl (by kernel_rfl) (fun _ _ _ h => h) (H.sub x0n) (ziS qu25 qs28) rfl ?_
       refine zl1 13 ?_
       refine b_st rfl go_none (m_store1 H 0 qs28 rfl rfl rfl rfl (by rw [List.length_append, uC_length]; omega) (uC_setA0 _ sp (i) _ (by omega) (by omega))) (L' := [_]) rfl rfl (fun _ H => (H.sub x0n)) ?_
       intro w H
       refine zd 14 rfl (by kernel_rfl) (fun _ _ _ h => h) (H.sub x0n) (ziS qu25 qs28) rfl ?_
       refine zl1 15 ?_
       refine b_st rfl go_none (m_store1 H 0 qs28 rfl rfl rfl rfl (by rw [List.length_append, uC_length, List.length_set]; omega) (uC_setA0 _ sp (j) _ (by rw [List.length_set]; omega) (by omega))) (L' := [_]) rfl rfl (fun _ H => (H.sub x0n)) ?_
       intro w H
       refine zz (t100 (t60 (t8 []))) ?_
       exact ⟨_, rfl, ⟨_, _, _, _, _, _, _, _, _, _, _, _, _, _, rfl, H⟩⟩
      ·refine b_val rfl go_none (r_load1 qg28 rfl (H.at 0 rfl) (u_get0 (i := i) (by omega) (by omega))) rfl (H.sub x0n) ?_
       refine zl1 7 ?_
       refine b_val rfl go_none (r_load1 qg28 rfl (H.at 0 rfl) (u_get0 (i := j) (by omega) (by omega))) rfl (H.sub x0n) ?_
       refine zd 12 rfl (by kernel_rfl) (fun _ _ _ h => h) (H.sub x0n) (ziS qu25 qs28) rfl ?_
       refine zl1 13 ?_
       refine b_st rfl go_none (m_store1 H 0 qs28 rfl rfl rfl rfl (by rw [List.length_append, uC_length]; omega) (uC_setA0 _ sp (i) _ (by omega) (by omega))) (L' := [_]) rfl rfl (fun _ H => (H.sub x0n)) ?_
       intro w H
       refine zd 14 rfl (by kernel_rfl) (fun _ _ _ h => h) (H.sub x0n) (ziS qu25 qs28) rfl ?_
       refine zl1 15 ?_
       refine b_st rfl go_none (m_store1 H 0 qs28 rfl rfl rfl rfl (by rw [List.length_append, uC_length, List.length_set]; omega) (uC_setA0 _ sp (j) _ (by rw [List.length_set]; omega) (by omega))) (L' := [_]) rfl rfl (fun _ H => (H.sub x0n)) ?_
       intro w H
       refine zz (t100 (t60 (t8 []))) ?_
       exact ⟨_, rfl, ⟨_, _, _, _, _, _, _, _, _, _, _, _, _, _, rfl, H⟩⟩
     ·rintro l w ⟨u81, u82, u83, u84, u85, u86, u87, u88, u89, u90, u91, u92, u93, u94, hl, H⟩
      obtain rfl := hl.trans (rfl : _ = t100 (t60 (t8 [])))
      clear hl
      have hi1 := hxu.resolve_left (by omega)
      have hj1 := hxd.resolve_left (by omega)
      refine zq 168 ⟨rfl, rfl⟩ ?_
      refine zm ?_
      refine zj ?_
      refine za ?_
      refine zc (t100 (t60 (t8 []))) ?_
      refine zq 168 ⟨rfl, rfl⟩ ?_
      refine zm ?_
      refine s_val (r_sub rfl rfl (wr (r := ((j - 1 : Nat) : Int)))) ?_
      refine za ?_
      refine zc (t100 (t60 (t8 []))) ?_
      refine c_seq ?_
      refine wp_block ?_
      refine c_loop (fun (l0 : List Value) (k : Nat) (l : List Value) (w : World) => ∃ (u99 u100 u101 u102 u103 u104 u105 u106 u107 u108 u109 u110 u111 u112 u113 u114 u115 u116 u117 u118 u119 u120 u121 u122 u123 u124 u125 u126 u127 u128 u129 u130 u131 u132 u133 u134 u135 u136 u137 u138 u139 u140 u141 u142 u143 u144 u145 u146 u147 u148 u149 u150 u151 u152 : Value) (i j : Nat) (zs : List Int), l = ovr l0 [N_, N_, N_, N_, N_, N_, N_, N_, N_, N_, Y_ (.int .i64 i), Y_ (.int .i64 j), N_, N_, N_, N_, N_, N_, N_, N_, N_, N_, N_, N_, N_, N_, N_, N_, N_, N_, N_, N_, N_, N_, N_, N_, N_, N_, N_, N_, N_, N_, N_, N_, N_, N_, N_, N_, N_, N_, N_, N_, N_, N_, N_, N_, N_, N_, N_, N_, N_, N_, N_, N_, N_, N_, N_, N_, N_, N_, N_, N_, N_, N_, N_, N_, N_, N_, N_, N_, N_, N_, N_, N_, N_, N_, N_, N_, N_, N_, N_, N_, N_, N_, N_, N_, N_, N_, N_, Y_ u99, Y_ u100, Y_ u101, Y_ u102, Y_ u103, Y_ u104, Y_ u105, Y_ u106, Y_ u107, Y_ u108, Y_ u109, Y_ u110, Y_ u111, Y_ u112, Y_ u113, Y_ u114, Y_ u115, Y_ u116, Y_ u117, Y_ u118, Y_ u119, Y_ u120, Y_ u121, Y_ u122, Y_ u123, Y_ u124, Y_ u125, Y_ u126, Y_ u127, Y_ u128, Y_ u129, Y_ u130, Y_ u131, Y_ u132, Y_ u133, Y_ u134, Y_ u135, Y_ u136, Y_ u137, Y_ u138, Y_ u139, Y_ u140, Y_ u141, Y_ u142, Y_ u143, Y_ u144, Y_ u145, Y_ u146, Y_ u147, Y_ u148, Y_ u149, Y_ u150, Y_ u151, Y_ u152] ∧ Part 0 id a z i j zs ∧ Sw 0 a z ys zs ∧ k = j + 1 - i ∧ St w0 [b] w [(b, .cells (uC zs ++ sp).toArray 28 (0, 0))]) (fun (k : Nat) => k) (j - 1 + 1 - (i + 1)) ⟨_, _, _, _, _, _, _, _, _, _, _, _, _, _, _, _, _, _, _, _, _, _, _, _, _, _, _, _, _, _, _, _, _, _, _, _, _, _, _, _, _, _, _, _, _, _, _, _, _, _, _, _, _, _, i + 1, j - 1, swp2 0 zs i j, rfl, (hp.swap (by omega) (by omega) hi1 hj1), (.step i j hsw ⟨by omega, by omega⟩ ⟨by omega, by omega⟩ he), rfl, H⟩ ?_
      intro k l w ⟨u99, u100, u101, u102, u103, u104, u105, u106, u107, u108, u109, u110, u111, u112, u113, u114, u115, u116, u117, u118, u119, u120, u121, u122, u123, u124, u125, u126, u127, u128, u129, u130, u131, u132, u133, u134, u135, u136, u137, u138, u139, u140, u141, u142, u143, u144, u145, u146, u147, u148, u149, u150, u151, u152, i, j, zs, hl, hp, hsw, hk, H⟩
      obtain rfl := hl.trans (rfl : _ = t100 (t60 (t8 [])))
      clear hl
      have hlen := hsw.length
      have hai := hp.ai
      have hij := hp.ij
      have hje := hp.jb
      obtain ⟨I, hI⟩ : ∃ I : Nat, I = i := ⟨_, rfl⟩
      obtain ⟨J, hJ⟩ : ∃ J : Nat, J = j := ⟨_, rfl⟩
      refine wp_block ?_
      refine c_cut (fun (l0 : List Value) (l : List Value) (w : World) => ∃ (u99 u100 u101 u102 u103 u104 u105 u106 u107 u108 u109 u110 u111 u112 u113 u114 : Value) (i : Nat), l = ovr l0 [N_, N_, N_, N_, N_, N_, N_, N_, N_, N_, Y_ (.int .i64 i), N_, N_, N_, N_, N_, N_, N_, N_, N_, N_, N_, N_, N_, N_, N_, N_, N_, N_, N_, N_, N_, N_, N_, N_, N_, N_, N_, N_, N_, N_, N_, N_, N_, N_, N_, N_, N_, N_, N_, N_, N_, N_, N_, N_, N_, N_, N_, N_, N_, N_, N_, N_, N_, N_, N_, N_, N_, N_, N_, N_, N_, N_, N_, N_, N_, N_, N_, N_, N_, N_, N_, N_, N_, N_, N_, N_, N_, N_, N_, N_, N_, N_, N_, N_, N_, N_, N_, N_, Y_ u99, Y_ u100, Y_ u101, Y_ u102, Y_ u103, Y_ u104, Y_ u105, Y_ u106, Y_ u107, Y_ u108, Y_ u109, Y_ u110, Y_ u111, Y_ u112, Y_ u113, Y_ u114] ∧ Part 0 id a z i j zs ∧ (J < i ∨ ¬ kk 0 id zs i < kk 0 id zs a) ∧ I ≤ i ∧ St w0 [b] w [(b, .cells (uC zs ++ sp).toArray 28 (0, 0))]) ?_ ?_
      ·refine wp_block ?_
       refine c_loop (fun (l0 : List Value) (i : Nat) (l : List Value) (w : World) => ∃ (u99 u100 u101 u102 u103 u104 u105 u106 u107 u108 u109 u110 u111 u112 u113 u114 : Value) , l = ovr l0 [N_, N_, N_, N_, N_, N_, N_, N_, N_, N_, Y_ (.int .i64 i), N_, N_, N_, N_, N_, N_, N_, N_, N_, N_, N_, N_, N_, N_, N_, N_, N_, N_, N_, N_, N_, N_, N_, N_, N_, N_, N_, N_, N_, N_, N_, N_, N_, N_, N_, N_, N_, N_, N_, N_, N_, N_, N_, N_, N_, N_, N_, N_, N_, N_, N_, N_, N_, N_, N_, N_, N_, N_, N_, N_, N_, N_, N_, N_, N_, N_, N_, N_, N_, N_, N_, N_, N_, N_, N_, N_, N_, N_, N_, N_, N_, N_, N_, N_, N_, N_, N_, N_, Y_ u99, Y_ u100, Y_ u101, Y_ u102, Y_ u103, Y_ u104, Y_ u105, Y_ u106, Y_ u107, Y_ u108, Y_ u109, Y_ u110, Y_ u111, Y_ u112, Y_ u113, Y_ u114] ∧ Part 0 id a z i j zs ∧ I ≤ i ∧ St w0 [b] w [(b, .cells (uC zs ++ sp).toArray 28 (0, 0))]) (fun (i : Nat) => z - i) i ⟨_, _, _, _, _, _, _, _, _, _, _, _, _, _, _, _, rfl, hp, by omega, H⟩ ?_
       intro i l w ⟨u99, u100, u101, u102, u103, u104, u105, u106, u107, u108, u109, u110, u111, u112, u113, u114, hl, hp, hiI, H⟩
       obtain rfl := hl.trans (rfl : _ = t100 (t60 (t8 [])))
       clear hl
       have hlen := hsw.length
       have hai := hp.ai
       have hij := hp.ij
       have hje := hp.jb
       refine c_seq ?_
       refine c_seq ?_
       refine d_begin (sz := 168) ⟨rfl, rfl⟩ (by kernel_rfl) H (H) rfl ?_
       intro w H
       refine zM 0 H ?_
       refine zM 1 H ?_
       refine zd 2 rfl (by kernel_rfl) (fun _ _ _ h => h) H (r_leq rfl rfl) rfl ?_
       refine d_part (fun h101 => ?_) (fun h101 => ?_)
       ·refine zM 3 H ?_
        refine zG 4 rfl rfl rfl (by kernel_rfl) (fun _ _ _ h => h) H (r_move rfl) rfl ?_
        refine zG 5 rfl rfl rfl (by kernel_rfl) (fun _ _ _ h => h) H (r_move rfl) rfl ?_
        refine zG 6 rfl rfl rfl (by kernel_rfl) (fun _ _ _ h => h) H (ziS qu25 qs28) rfl ?_
        refine zGh 7 rfl rfl rfl (by kernel_rfl) (fun _ _ _ h => h) H (fun HS => r_load1 qg28 rfl (HS.at 0 rfl) (u_get0 (i := i) (by omega) (by omega))) rfl ?_
        refine zG 8 rfl rfl rfl (by kernel_rfl) (fun _ _ _ h => h) H (r_move rfl) rfl ?_
        refine zG 9 rfl rfl rfl (by kernel_rfl) (fun _ _ _ h => h) H (r_move rfl) rfl ?_
        refine zG 10 rfl rfl rfl (by kernel_rfl) (fun _ _ _ h => h) H (ziS qu25 qs28) rfl ?_
        refine zGh 11 rfl rfl rfl (by kernel_rfl) (fun _ _ _ h => h) H (fun HS => r_load1 qg28 rfl (HS.at 0 rfl) (u_get0 (i := a) (by omega) (by omega))) rfl ?_
        refine zl1 12 ?_
        refine b_call rfl (go_some rfl rfl) (r_call qc96 (ec rfl (ec rfl en))) (less_spec _ _ _) rfl ?_
        rintro v w ⟨rfl, HC⟩
        replace H := H.quiet HC
        refine ⟨H, ?_⟩
        refine zd 13 rfl (by kernel_rfl) (fun _ _ _ h => h) H (r_pickt rfl rfl) rfl ?_
        refine zz (t100 (t60 (t8 []))) ?_
        refine x_thenNormal ?_
        refine c_if rfl (fun h112 => ?_) (fun h112 => ?_)
        ·have hcm120 := h112
         refine wp_skip ?_
         refine x_thenNormal ?_
         refine wp_block ?_
         refine c_region (n := 168) ⟨rfl, rfl⟩ ?_
         refine zm ?_
         refine zj ?_
         refine za ?_
         refine zb (t100 (t60 (t8 []))) ?_
         refine x_blockNormal ?_
         exact ⟨i + 1, _, rfl, ⟨_, _, _, _, _, _, _, _, _, _, _, _, _, _, _, _, rfl, (hp.up (by omega) hcm120), by omega, H⟩, by omega⟩
        ·have hcm120 := h112
         refine wp_exit (x_thenExit (x_thenExit (x_blockHit ?_)))
         exact ⟨_, rfl, ⟨_, _, _, _, _, _, _, _, _, _, _, _, _, _, _, _, _, rfl, hp, .inr hcm120, hiI, H⟩⟩
       ·refine zM 3 H ?_
        refine zN 4 H ?_
        refine zN 5 H ?_
        refine zN 6 H ?_
        refine zN 7 H ?_
        refine zN 8 H ?_
        refine zN 9 H ?_
        refine zN 10 H ?_
        refine zN 11 H ?_
        refine zN 12 H ?_
        refine zd 13 rfl (by kernel_rfl) (fun _ _ _ h => h) H (r_pickf rfl rfl) rfl ?_
        refine zz (t100 (t60 (t8 []))) ?_
        refine x_thenNormal ?_
        refine c_iff rfl ?_
        refine wp_exit (x_thenExit (x_thenExit (x_blockHit ?_)))
        exact ⟨_, rfl, ⟨_, _, _, _, _, _, _, _, _, _, _, _, _, _, _, _, _, rfl, hp, .inl (by omega), hiI, H⟩⟩
      ·rintro l w ⟨u99, u100, u101, u102, u103, u104, u105, u106, u107, u108, u109, u110, u111, u112, u113, u114, i, hl, hp, hxu, hiI, H⟩
       obtain rfl := hl.trans (rfl : _ = t100 (t60 (t8 [])))
       clear hl
       have hlen := hsw.length
       have hai := hp.ai
       have hij := hp.ij
       have hje := hp.jb
       refine c_cut (fun (l0 : List Value) (l : List Value) (w : World) => ∃ (u115 u116 u117 u118 u119 u120 u121 u122 u123 u124 u125 u126 u127 u128 u129 u130 u131 : Value) (j : Nat), l = ovr l0 [N_, N_, N_, N_, N_, N_, N_, N_, N_, N_, N_, Y_ (.int .i64 j), N_, N_, N_, N_, N_, N_, N_, N_, N_, N_, N_, N_, N_, N_, N_, N_, N_, N_, N_, N_, N_, N_, N_, N_, N_, N_, N_, N_, N_, N_, N_, N_, N_, N_, N_, N_, N_, N_, N_, N_, N_, N_, N_, N_, N_, N_, N_, N_, N_, N_, N_, N_, N_, N_, N_, N_, N_, N_, N_, N_, N_, N_, N_, N_, N_, N_, N_, N_, N_, N_, N_, N_, N_, N_, N_, N_, N_, N_, N_, N_, N_, N_, N_, N_, N_, N_, N_, N_, N_, N_, N_, N_, N_, N_, N_, N_, N_, N_, N_, N_, N_, N_, N_, Y_ u115, Y_ u116, Y_ u117, Y_ u118, Y_ u119, Y_ u120, Y_ u121, Y_ u122, Y_ u123, Y_ u124, Y_ u125, Y_ u126, Y_ u127, Y_ u128, Y_ u129, Y_ u130, Y_ u131] ∧ Part 0 id a z i j zs ∧ (j < i ∨ kk 0 id zs j < kk 0 id zs a) ∧ j ≤ J ∧ St w0 [b] w [(b, .cells (uC zs ++ sp).toArray 28 (0, 0))]) ?_ ?_
       ·refine wp_block ?_
        refine c_loop (fun (l0 : List Value) (j : Nat) (l : List Value) (w : World) => ∃ (u115 u116 u117 u118 u119 u120 u121 u122 u123 u124 u125 u126 u127 u128 u129 u130 u131 : Value) , l = ovr l0 [N_, N_, N_, N_, N_, N_, N_, N_, N_, N_, N_, Y_ (.int .i64 j), N_, N_, N_, N_, N_, N_, N_, N_, N_, N_, N_, N_, N_, N_, N_, N_, N_, N_, N_, N_, N_, N_, N_, N_, N_, N_, N_, N_, N_, N_, N_, N_, N_, N_, N_, N_, N_, N_, N_, N_, N_, N_, N_, N_, N_, N_, N_, N_, N_, N_, N_, N_, N_, N_, N_, N_, N_, N_, N_, N_, N_, N_, N_, N_, N_, N_, N_, N_, N_, N_, N_, N_, N_, N_, N_, N_, N_, N_, N_, N_, N_, N_, N_, N_, N_, N_, N_, N_, N_, N_, N_, N_, N_, N_, N_, N_, N_, N_, N_, N_, N_, N_, N_, Y_ u115, Y_ u116, Y_ u117, Y_ u118, Y_ u119, Y_ u120, Y_ u121, Y_ u122, Y_ u123, Y_ u124, Y_ u125, Y_ u126, Y_ u127, Y_ u128, Y_ u129, Y_ u130, Y_ u131] ∧ Part 0 id a z i j zs ∧ j ≤ J ∧ St w0 [b] w [(b, .cells (uC zs ++ sp).toArray 28 (0, 0))]) (fun (j : Nat) => j) j ⟨_, _, _, _, _, _, _, _, _, _, _, _, _, _, _, _, _, rfl, hp, by omega, H⟩ ?_
        intro j l w ⟨u115, u116, u117, u118, u119, u120, u121, u122, u123, u124, u125, u126, u127, u128, u129, u130, u131, hl, hp, hjJ, H⟩
        obtain rfl := hl.trans (rfl : _ = t100 (t60 (t8 [])))
        clear hl
        have hlen := hsw.length
        have hai := hp.ai
        have hij := hp.ij
        have hje := hp.jb
        refine c_seq ?_
        refine c_seq ?_
        refine d_begin (sz := 168) ⟨rfl, rfl⟩ (by kernel_rfl) H (H) rfl ?_
        intro w H
        refine zM 0 H ?_
        refine zM 1 H ?_
        refine zd 2 rfl (by kernel_rfl) (fun _ _ _ h => h) H (r_leq rfl rfl) rfl ?_
        refine d_part (fun h117 => ?_) (fun h117 => ?_)
        ·refine zM 3 H ?_
         refine zG 4 rfl rfl rfl (by kernel_rfl) (fun _ _ _ h => h) H (r_move rfl) rfl ?_
         refine zG 5 rfl rfl rfl (by kernel_rfl) (fun _ _ _ h => h) H (r_move rfl) rfl ?_
         refine zG 6 rfl rfl rfl (by kernel_rfl) (fun _ _ _ h => h) H (ziS qu25 qs28) rfl ?_
         refine zGh 7 rfl rfl rfl (by kernel_rfl) (fun _ _ _ h => h) H (fun HS => r_load1 qg28 rfl (HS.at 0 rfl) (u_get0 (i := j) (by omega) (by omega))) rfl ?_
         refine zG 8 rfl rfl rfl (by kernel_rfl) (fun _ _ _ h => h) H (r_move rfl) rfl ?_
         refine zG 9 rfl rfl rfl (by kernel_rfl) (fun _ _ _ h => h) H (r_move rfl) rfl ?_
         refine zG 10 rfl rfl rfl (by kernel_rfl) (fun _ _ _ h => h) H (ziS qu25 qs28) rfl ?_
         refine zGh 11 rfl rfl rfl (by kernel_rfl) (fun _ _ _ h => h) H (fun HS => r_load1 qg28 rfl (HS.at 0 rfl) (u_get0 (i := a) (by omega) (by omega))) rfl ?_
         refine zl1 12 ?_
         refine b_call rfl (go_some rfl rfl) (r_call qc96 (ec rfl (ec rfl en))) (less_spec _ _ _) rfl ?_
         rintro v w ⟨rfl, HC⟩
         replace H := H.quiet HC
         refine ⟨H, ?_⟩
         refine zG 13 rfl rfl rfl (by kernel_rfl) (fun _ _ _ h => h) H (r_notp rfl) rfl ?_
         refine zd 14 rfl (by kernel_rfl) (fun _ _ _ h => h) H (r_pickt rfl rfl) rfl ?_
         refine zz (t100 (t60 (t8 []))) ?_
         refine x_thenNormal ?_
         refine c_if rfl (fun h129 => ?_) (fun h129 => ?_)
         ·have hcm139 := h129
          refine wp_skip ?_
          refine x_thenNormal ?_
          refine wp_block ?_
          refine c_region (n := 168) ⟨rfl, rfl⟩ ?_
          refine zm ?_
          refine s_val (r_sub rfl rfl (wr (r := ((j - 1 : Nat) : Int)))) ?_
          refine za ?_
          refine zb (t100 (t60 (t8 []))) ?_
          refine x_blockNormal ?_
          exact ⟨j - 1, _, rfl, ⟨_, _, _, _, _, _, _, _, _, _, _, _, _, _, _, _, _, rfl, (hp.down (by omega) hcm139), by omega, H⟩, by omega⟩
         ·have hcm139 := Decidable.not_not.1 h129
          refine wp_exit (x_thenExit (x_thenExit (x_blockHit ?_)))
          exact ⟨_, rfl, ⟨_, _, _, _, _, _, _, _, _, _, _, _, _, _, _, _, _, _, rfl, hp, .inr hcm139, hjJ, H⟩⟩
        ·refine zM 3 H ?_
         refine zN 4 H ?_
         refine zN 5 H ?_
         refine zN 6 H ?_
         refine zN 7 H ?_
         refine zN 8 H ?_
         refine zN 9 H ?_
         refine zN 10 H ?_
         refine zN 11 H ?_
         refine zN 12 H ?_
         refine zN 13 H ?_
         refine zd 14 rfl (by kernel_rfl) (fun _ _ _ h => h) H (r_pickf rfl rfl) rfl ?_
         refine zz (t100 (t60 (t8 []))) ?_
         refine x_thenNormal ?_
         refine c_iff rfl ?_
         refine wp_exit (x_thenExit (x_thenExit (x_blockHit ?_)))
         exact ⟨_, rfl, ⟨_, _, _, _, _, _, _, _, _, _, _, _, _, _, _, _, _, _, rfl, hp, .inl (by omega), hjJ, H⟩⟩
       ·rintro l w ⟨u115, u116, u117, u118, u119, u120, u121, u122, u123, u124, u125, u126, u127, u128, u129, u130, u131, j, hl, hp, hxd, hjJ, H⟩
        obtain rfl := hl.trans (rfl : _ = t100 (t60 (t8 [])))
        clear hl
        have hlen := hsw.length
        have hai := hp.ai
        have hij := hp.ij
        have hje := hp.jb
        refine c_seq ?_
        refine zq 168 ⟨rfl, rfl⟩ ?_
        refine zm ?_
        refine zm ?_
        refine s_val (r_gtr rfl rfl) ?_
        refine zc (t100 (t60 (t8 []))) ?_
        refine c_if rfl (fun h134 => ?_) (fun h134 => ?_)
        ·refine wp_exit (x_thenExit (x_blockMiss (by decide) (x_thenExit (x_blockHit ?_))))
         refine x_thenNormal ?_
         refine c_seq ?_
         refine d_begin (sz := 168) ⟨rfl, rfl⟩ (by kernel_rfl) H (H.sub x0n) rfl ?_
         intro w H
         refine zM 0 (H.sub x0n) ?_
         refine zM 1 (H.sub x0n) ?_
         refine zM 2 (H.sub x0n) ?_
         refine zM 3 (H.sub x0n) ?_
         refine zM 4 (H.sub x0n) ?_
         refine zM 5 (H.sub x0n) ?_
         refine zd 6 rfl (by kernel_rfl) (fun _ _ _ h => h) (H.sub x0n) (ziS qu25 qs28) rfl ?_
         refine zM 8 (H.sub x0n) ?_
         refine zM 9 (H.sub x0n) ?_
         refine zd 10 rfl (by kernel_rfl) (fun _ _ _ h => h) (H.sub x0n) (ziS qu25 qs28) rfl ?_
         refine zl2 7 11 ?_ ?_
         ·refine b_val rfl go_none (r_load1 qg28 rfl (H.at 0 rfl) (u_get0 (i := a) (by omega) (by omega))) rfl (H.sub x0n) ?_
          refine zl1 11 ?_
          refine b_val rfl go_none (r_load1 qg28 rfl (H.at 0 rfl) (u_get0 (i := j) (by omega) (by omega))) rfl (H.sub x0n) ?_
          refine zd 12 rfl (by kernel_rfl) (fun _ _ _ h => h) (H.sub x0n) (ziS qu25 qs28) rfl ?_
          refine zl1 13 ?_
          refine b_st rfl go_none (m_store1 H 0 qs28 rfl rfl rfl rfl (by rw [List.length_append, uC_length]; omega) (uC_setA0 _ sp (j) _ (by omega) (by omega))) (L' := [_]) rfl rfl (fun _ H => (H.sub x0n)) ?_
          intro w H
          refine zd 14 rfl (by kernel_rfl) (fun _ _ _ h => h) (H.sub x0n) (ziS qu25 qs28) rfl ?_
          refine zl1 15 ?_
          refine b_st rfl go_none (m_store1 H 0 qs28 rfl rfl rfl rfl (by rw [List.length_append, uC_length, List.length_set]; omega) (uC_setA0 _ sp (a) _ (by rw [List.length_set]; omega) (by omega))) (L' := [_]) rfl rfl (fun _ H => (H.sub x0n)) ?_
          intro w H
          refine zz (t100 (t60 (t8 []))) ?_
          refine x_thenNormal ?_
          refine zq 168 ⟨rfl, rfl⟩ ?_
          refine zm ?_
          refine za ?_
          refine za ?_
          refine zc (t100 (t60 (t8 []))) ?_
          refine wp_ret ?_
          refine zw (res2 rfl rfl rfl) ?_
          exact ⟨_, _, _, rfl, (.step j a hsw ⟨by omega, by omega⟩ ⟨by omega, by omega⟩ he), hp.fin (by omega) (by omega), H⟩
         ·refine b_val rfl go_none (r_load1 qg28 rfl (H.at 0 rfl) (u_get0 (i := j) (by omega) (by omega))) rfl (H.sub x0n) ?_
          refine zl1 7 ?_
          refine b_val rfl go_none (r_load1 qg28 rfl (H.at 0 rfl) (u_get0 (i := a) (by omega) (by omega))) rfl (H.sub x0n) ?_
          refine zd 12 rfl (by kernel_rfl) (fun _ _ _ h => h) (H.sub x0n) (ziS qu25 qs28) rfl ?_
          refine zl1 13 ?_
          refine b_st rfl go_none (m_store1 H 0 qs28 rfl rfl rfl rfl (by rw [List.length_append, uC_length]; omega) (uC_setA0 _ sp (j) _ (by omega) (by omega))) (L' := [_]) rfl rfl (fun _ H => (H.sub x0n)) ?_
          intro w H
          refine zd 14 rfl (by kernel_rfl) (fun _ _ _ h => h) (H.sub x0n) (ziS qu25 qs28) rfl ?_
          refine zl1 15 ?_
          refine b_st rfl go_none (m_store1 H 0 qs28 rfl rfl rfl rfl (by rw [List.length_append, uC_length, List.length_set]; omega) (uC_setA0 _ sp (a) _ (by rw [List.length_set]; omega) (by omega))) (L' := [_]) rfl rfl (fun _ H => (H.sub x0n)) ?_
          intro w H
          refine zz (t100 (t60 (t8 []))) ?_
          refine x_thenNormal ?_
          refine zq 168 ⟨rfl, rfl⟩ ?_
          refine zm ?_
          refine za ?_
          refine za ?_
          refine zc (t100 (t60 (t8 []))) ?_
          refine wp_ret ?_
          refine zw (res2 rfl rfl rfl) ?_
          exact ⟨_, _, _, rfl, (.step j a hsw ⟨by omega, by omega⟩ ⟨by omega, by omega⟩ he), hp.fin (by omega) (by omega), H⟩
        ·refine wp_skip ?_
         refine x_thenNormal ?_
         refine c_cut (fun (l0 : List Value) (l : List Value) (w : World) => ∃ (u135 u136 u137 u138 u139 u140 u141 u142 u143 u144 u145 u146 u147 u148 : Value) , l = ovr l0 [N_, N_, N_, N_, N_, N_, N_, N_, N_, N_, N_, N_, N_, N_, N_, N_, N_, N_, N_, N_, N_, N_, N_, N_, N_, N_, N_, N_, N_, N_, N_, N_, N_, N_, N_, N_, N_, N_, N_, N_, N_, N_, N_, N_, N_, N_, N_, N_, N_, N_, N_, N_, N_, N_, N_, N_, N_, N_, N_, N_, N_, N_, N_, N_, N_, N_, N_, N_, N_, N_, N_, N_, N_, N_, N_, N_, N_, N_, N_, N_, N_, N_, N_, N_, N_, N_, N_, N_, N_, N_, N_, N_, N_, N_, N_, N_, N_, N_, N_, N_, N_, N_, N_, N_, N_, N_, N_, N_, N_, N_, N_, N_, N_, N_, N_, N_, N_, N_, N_, N_, N_, N_, N_, N_, N_, N_, N_, N_, N_, N_, N_, N_, N_, N_, N_, Y_ u135, Y_ u136, Y_ u137, Y_ u138, Y_ u139, Y_ u140, Y_ u141, Y_ u142, Y_ u143, Y_ u144, Y_ u145, Y_ u146, Y_ u147, Y_ u148] ∧ St w0 [b] w [(b, .cells (uC (swp2 0 zs i j) ++ sp).toArray 28 (0, 0))]) ?_ ?_
         ·refine d_begin (sz := 168) ⟨rfl, rfl⟩ (by kernel_rfl) H (H.sub x0n) rfl ?_
          intro w H
          refine zM 0 (H.sub x0n) ?_
          refine zM 1 (H.sub x0n) ?_
          refine zM 2 (H.sub x0n) ?_
          refine zM 3 (H.sub x0n) ?_
          refine zM 4 (H.sub x0n) ?_
          refine zM 5 (H.sub x0n) ?_
          refine zd 6 rfl (by kernel_rfl) (fun _ _ _ h => h) (H.sub x0n) (ziS qu25 qs28) rfl ?_
          refine zM 8 (H.sub x0n) ?_
          refine zM 9 (H.sub x0n) ?_
          refine zd 10 rfl (by kernel_rfl) (fun _ _ _ h => h) (H.sub x0n) (ziS qu25 qs28) rfl ?_
          refine zl2 7 11 ?_ ?_
          ·refine b_val rfl go_none (r_load1 qg28 rfl (H.at 0 rfl) (u_get0 (i := j) (by omega) (by omega))) rfl (H.sub x0n) ?_
           refine zl1 11 ?_
           refine b_val rfl go_none (r_load1 qg28 rfl (H.at 0 rfl) (u_get0 (i := i) (by omega) (by omega))) rfl (H.sub x0n) ?_
           refine zd 12 rfl (by kernel_rfl) (fun _ _ _ h => h) (H.sub x0n) (ziS qu25 qs28) rfl ?_
           refine zl1 13 ?_
           refine b_st rfl go_none (m_store1 H 0 qs28 rfl rfl rfl rfl (by rw [List.length_append, uC_length]; omega) (uC_setA0 _ sp (i) _ (by omega) (by omega))) (L' := [_]) rfl rfl (fun _ H => (H.sub x0n)) ?_
           intro w H
           refine zd 14 rfl (by kernel_rfl) (fun _ _ _ h => h) (H.sub x0n) (ziS qu25 qs28) rfl ?_
           refine zl1 15 ?_
           refine b_st rfl go_none (m_store1 H 0 qs28 rfl rfl rfl rfl (by rw [List.length_append, uC_length, List.length_set]; omega) (uC_setA0 _ sp (j) _ (by rw [List.length_set]; omega) (by omega))) (L' := [_]) rfl rfl (fun _ H => (H.sub x0n)) ?_
           intro w H
           refine zz (t100 (t60 (t8 []))) ?_
           exact ⟨_, rfl, ⟨_, _, _, _, _, _, _, _, _, _, _, _, _, _, rfl, H⟩⟩
          ·refine b_val rfl go_none (r_load1 qg28 rfl (H.at 0 rfl) (u_get0 (i := i) (by omega) (by omega))) rfl (H.sub x0n) ?_
           refine zl1 7 ?_
           refine b_val rfl go_none (r_load1 qg28 rfl (H.at 0 rfl) (u_get0 (i := j) (by omega) (by omega))) rfl (H.sub x0n) ?_
           refine zd 12 rfl (by kernel_rfl) (fun _ _ _ h => h) (H.sub x0n) (ziS qu25 qs28) rfl ?_
           refine zl1 13 ?_
           refine b_st rfl go_none (m_store1 H 0 qs28 rfl rfl rfl rfl (by rw [List.length_append, uC_length]; omega) (uC_setA0 _ sp (i) _ (by omega) (by omega))) (L' := [_]) rfl rfl (fun _ H => (H.sub x0n)) ?_
           intro w H
           refine zd 14 rfl (by kernel_rfl) (fun _ _ _ h => h) (H.sub x0n) (ziS qu25 qs28) rfl ?_
           refine zl1 15 ?_
           refine b_st rfl go_none (m_store1 H 0 qs28 rfl rfl rfl rfl (by rw [List.length_append, uC_length, List.length_set]; omega) (uC_setA0 _ sp (j) _ (by rw [List.length_set]; omega) (by omega))) (L' := [_]) rfl rfl (fun _ H => (H.sub x0n)) ?_
           intro w H
           refine zz (t100 (t60 (t8 []))) ?_
           exact ⟨_, rfl, ⟨_, _, _, _, _, _, _, _, _, _, _, _, _, _, rfl, H⟩⟩
         ·rintro l w ⟨u135, u136, u137, u138, u139, u140, u141, u142, u143, u144, u145, u146, u147, u148, hl, H⟩
          obtain rfl := hl.trans (rfl : _ = t100 (t60 (t8 [])))
          clear hl
          have hi1 := hxu.resolve_left (by omega)
          have hj1 := hxd.resolve_left (by omega)
          refine zq 168 ⟨rfl, rfl⟩ ?_
          refine zm ?_
          refine zj ?_
          refine za ?_
          refine zc (t100 (t60 (t8 []))) ?_
          refine c_region (n := 168) ⟨rfl, rfl⟩ ?_
          refine zm ?_
          refine s_val (r_sub rfl rfl (wr (r := ((j - 1 : Nat) : Int)))) ?_
          refine za ?_
          refine zb (t100 (t60 (t8 []))) ?_
          refine x_blockNormal ?_
          exact ⟨(j - 1 + 1 - (i + 1)), _, rfl, ⟨_, _, _, _, _, _, _, _, _, _, _, _, _, _, _, _, _, _, _, _, _, _, _, _, _, _, _, _, _, _, _, _, _, _, _, _, _, _, _, _, _, _, _, _, _, _, _, _, _, _, _, _, _, _, i + 1, j - 1, swp2 0 zs i j, rfl, (hp.swap (by omega) (by omega) hi1 hj1), (.step i j hsw ⟨by omega, by omega⟩ ⟨by omega, by omega⟩ he), rfl, H⟩, by omega⟩

end Go.Proofs.Ytobfnieebiakeaa

