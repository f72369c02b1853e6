import Derived.Test.YtobfnieebiakeaaPM
import Derived.Test.YtobfnieebiakeaaPA4
import Derived.Test.YtobfnieebiakeaaPU6
import Derived.Test.YtobfnieebiakeaaPVx2
namespace Go.Proofs.Ytobfnieebiakeaa
open Go Go.Er

set_option maxHeartbeats 4000000 in
theorem less_spec (x y : Int) (w0 : World) :
  Calls Try.prog 96 #[.int .u64 x, .int .u64 y] w0 fun e w => ∃ v, e = .returned v ∧ (v = .bool (decide (x < y)) ∧ St w0 [] w []) := by
 have H := St.refl w0
 refine c_enter (args := [.int .u64 x, .int .u64 y]) (l := t10 (t7 [])) Try.func96 Try.ntmps96 rfl rfl ?_
 refine zq 17 ⟨rfl, rfl⟩ ?_
 refine za ?_
 refine zc (t10 (t7 [])) ?_
 refine zq 17 ⟨rfl, rfl⟩ ?_
 refine zm ?_
 refine s_call (r_call Try.call58 (ec rfl en)) (isNaN_spec _ _) ?_
 rintro v w ⟨rfl, HC⟩
 replace H := H.quiet HC
 refine zm ?_
 refine zg ?_
 refine zg ?_
 refine zg ?_
 refine zf ?_
 refine zm ?_
 refine zy ?_
 refine zm ?_
 refine zy ?_
 refine zm ?_
 refine zy ?_
 refine s_val (r_lss rfl rfl) ?_
 refine zf ?_
 refine za ?_
 refine zc (t10 (t7 [])) ?_
 refine wp_ret ?_
 refine zw (res1 rfl rfl) ?_
 exact ⟨rfl, H⟩

set_option maxHeartbeats 4000000 in
theorem isortu_spec (b n cap : Nat) (zs : List Int) (sp : List Value) (hn : n = zs.length) (hl : zs.length ≤ 1000000) (w0 : World) (hown : Go.Er.Own w0 [(b, .cells (uC zs ++ sp).toArray 28 (0, 0))]) :
  Calls Try.prog 90 #[.slice (some ⟨b, 0, none⟩) n cap, .int .i64 0, .int .i64 (n : Nat)] w0 fun e w => ∃ v, e = .returned v ∧ (v = .tuple #[] ∧ ∃ zs2, zs2.Perm zs ∧ St w0 [b] w [(b, .cells (uC zs2 ++ sp).toArray 28 (0, 0))]) := by
 have H : St w0 [b] w0 [(b, .cells (uC zs ++ sp).toArray 28 (0, 0))] := hown.st
 refine c_enter (args := [.slice (some ⟨b, 0, none⟩) n cap, .int .i64 0, .int .i64 (n : Nat)]) (l := t40 (t9 [])) Try.func90 Try.ntmps90 rfl rfl ?_
 refine zq 49 ⟨rfl, rfl⟩ ?_
 refine zm ?_
 refine zj ?_
 refine za ?_
 refine zc (t40 (t9 [])) ?_
 refine wp_block ?_
 refine c_loop (fun (l0 : List Value) (i : Nat) (l : List Value) (w : World) => ∃ (u7 u10 u11 u12 u13 u14 u15 u16 u17 u18 u19 u20 u21 u22 u23 u24 u25 u26 u27 u28 u29 u30 u31 u32 u33 u34 u35 u36 u37 u38 u39 u40 u41 u42 u43 u44 u45 u46 u47 u48 : Value) (ws : List Int), l = ovr l0 [N_, N_, N_, N_, N_, N_, Y_ (.int .i64 i), Y_ u7, N_, N_, Y_ u10, Y_ u11, Y_ u12, Y_ u13, Y_ u14, Y_ u15, Y_ u16, Y_ u17, Y_ u18, Y_ u19, Y_ u20, Y_ u21, Y_ u22, Y_ u23, Y_ u24, Y_ u25, Y_ u26, Y_ u27, Y_ u28, Y_ u29, Y_ u30, Y_ u31, Y_ u32, Y_ u33, Y_ u34, Y_ u35, Y_ u36, Y_ u37, Y_ u38, Y_ u39, Y_ u40, Y_ u41, Y_ u42, Y_ u43, Y_ u44, Y_ u45, Y_ u46, Y_ u47, Y_ u48] ∧ 1 ≤ i ∧ ws.Perm zs ∧ St w0 [b] w [(b, .cells (uC ws ++ sp).toArray 28 (0, 0))]) (fun (i : Nat) => zs.length + 1 - i) 1 ⟨_, _, _, _, _, _, _, _, _, _, _, _, _, _, _, _, _, _, _, _, _, _, _, _, _, _, _, _, _, _, _, _, _, _, _, _, _, _, _, _, zs, rfl, Nat.le_refl _, List.Perm.refl _, H⟩ ?_
 intro i l w ⟨u7, u10, u11, u12, u13, u14, u15, u16, u17, u18, u19, u20, u21, u22, u23, u24, u25, u26, u27, u28, u29, u30, u31, u32, u33, u34, u35, u36, u37, u38, u39, u40, u41, u42, u43, u44, u45, u46, u47, u48, ws, hl, hi1, hp, H⟩
 obtain rfl := hl.trans (rfl : _ = t40 (t9 []))
 clear hl
 have hlw := hp.length_eq
 refine c_seq ?_
 refine zq 49 ⟨rfl, rfl⟩ ?_
 refine zm ?_
 refine zm ?_
 refine s_val (r_lss rfl rfl) ?_
 refine zc (t40 (t9 [])) ?_
 refine c_if rfl (fun h12 => ?_) (fun h12 => ?_)
 ·refine wp_skip ?_
  refine x_thenNormal ?_
  refine c_seq ?_
  refine wp_block ?_
  refine zq 49 ⟨rfl, rfl⟩ ?_
  refine zm ?_
  refine za ?_
  refine zc (t40 (t9 [])) ?_
  refine wp_block ?_
  refine c_loop (fun (l0 : List Value) (j : Nat) (l : List Value) (w : World) => ∃ (u16 u17 u18 u19 u20 u21 u22 u23 u24 u25 u26 u27 u28 u29 u30 u31 u32 u33 u34 u35 u36 u37 u38 u39 u40 u41 u42 u43 u44 u45 u46 u47 u48 : Value) (ws2 : List Int), l = ovr l0 [N_, N_, N_, N_, N_, N_, N_, Y_ (.int .i64 j), N_, N_, N_, N_, N_, N_, N_, N_, Y_ u16, Y_ u17, Y_ u18, Y_ u19, Y_ u20, Y_ u21, Y_ u22, Y_ u23, Y_ u24, Y_ u25, Y_ u26, Y_ u27, Y_ u28, Y_ u29, Y_ u30, Y_ u31, Y_ u32, Y_ u33, Y_ u34, Y_ u35, Y_ u36, Y_ u37, Y_ u38, Y_ u39, Y_ u40, Y_ u41, Y_ u42, Y_ u43, Y_ u44, Y_ u45, Y_ u46, Y_ u47, Y_ u48] ∧ j ≤ i ∧ ws2.Perm zs ∧ St w0 [b] w [(b, .cells (uC ws2 ++ sp).toArray 28 (0, 0))]) (fun (j : Nat) => j) i ⟨_, _, _, _, _, _, _, _, _, _, _, _, _, _, _, _, _, _, _, _, _, _, _, _, _, _, _, _, _, _, _, _, _, ws, rfl, Nat.le_refl _, hp, H⟩ ?_
  intro j l w ⟨u16, u17, u18, u19, u20, u21, u22, u23, u24, u25, u26, u27, u28, u29, u30, u31, u32, u33, u34, u35, u36, u37, u38, u39, u40, u41, u42, u43, u44, u45, u46, u47, u48, ws2, hl, hji, hp2, H⟩
  obtain rfl := hl.trans (rfl : _ = t40 (t9 []))
  clear hl
  have hlw2 := hp2.length_eq
  refine c_seq ?_
  refine c_seq ?_
  refine d_begin (sz := 49) ⟨rfl, rfl⟩ (by kernel_rfl) H (H) rfl ?_
  intro w H
  refine zM 0 H ?_
  refine zM 1 H ?_
  refine zd 2 rfl (by kernel_rfl) (fun _ _ _ h => h) H (r_gtr rfl rfl) rfl ?_
  refine d_part (fun h18 => ?_) (fun h18 => ?_)
  ·refine zM 3 H ?_
   refine zG 4 rfl rfl rfl (by kernel_rfl) (fun _ _ _ h => h) H (r_move rfl) rfl ?_
   refine zG 5 rfl rfl rfl (by kernel_rfl) (fun _ _ _ h => h) H (r_move rfl) rfl ?_
   refine zG 6 rfl rfl rfl (by kernel_rfl) (fun _ _ _ h => h) H (ziS qu25 qs28) rfl ?_
   refine zGh 7 rfl rfl rfl (by kernel_rfl) (fun _ _ _ h => h) H (fun HS => r_load1 qg28 rfl (HS.at 0 rfl) (u_get0 (i := j) (by omega) (by omega))) rfl ?_
   refine zG 8 rfl rfl rfl (by kernel_rfl) (fun _ _ _ h => h) H (r_move rfl) rfl ?_
   refine zG 9 rfl rfl rfl (by kernel_rfl) (fun _ _ _ h => h) H (r_move rfl) rfl ?_
   refine zG 10 rfl rfl rfl (by kernel_rfl) (fun _ _ _ h => h) H (r_sub rfl rfl (wr (r := ((j - 1 : Nat) : Int)))) rfl ?_
   refine zG 11 rfl rfl rfl (by kernel_rfl) (fun _ _ _ h => h) H (ziS qu25 qs28) rfl ?_
   refine zGh 12 rfl rfl rfl (by kernel_rfl) (fun _ _ _ h => h) H (fun HS => r_load1 qg28 rfl (HS.at 0 rfl) (u_get0 (i := (j - 1)) (by omega) (by omega))) rfl ?_
   refine zl1 13 ?_
   refine b_call rfl (go_some rfl rfl) (r_call qc96 (ec rfl (ec rfl en))) (less_spec _ _ _) rfl ?_
   rintro v w ⟨rfl, HC⟩
   replace H := H.quiet HC
   refine ⟨H, ?_⟩
   refine zd 14 rfl (by kernel_rfl) (fun _ _ _ h => h) H (r_pickt rfl rfl) rfl ?_
   refine zz (t40 (t9 [])) ?_
   refine x_thenNormal ?_
   refine c_if rfl (fun h30 => ?_) (fun h30 => ?_)
   ·refine wp_skip ?_
    refine x_thenNormal ?_
    refine c_seq ?_
    refine wp_block ?_
    refine d_begin (sz := 49) ⟨rfl, rfl⟩ (by kernel_rfl) H (H.sub x0n) rfl ?_
    intro w H
    refine zM 0 (H.sub x0n) ?_
    refine zM 1 (H.sub x0n) ?_
    refine zM 2 (H.sub x0n) ?_
    refine zM 3 (H.sub x0n) ?_
    refine zd 4 rfl (by kernel_rfl) (fun _ _ _ h => h) (H.sub x0n) (r_sub rfl rfl (wr (r := ((j - 1 : Nat) : Int)))) rfl ?_
    refine zM 5 (H.sub x0n) ?_
    refine zM 6 (H.sub x0n) ?_
    refine zd 7 rfl (by kernel_rfl) (fun _ _ _ h => h) (H.sub x0n) (r_sub rfl rfl (wr (r := ((j - 1 : Nat) : Int)))) rfl ?_
    refine zd 8 rfl (by kernel_rfl) (fun _ _ _ h => h) (H.sub x0n) (ziS qu25 qs28) rfl ?_
    refine zM 10 (H.sub x0n) ?_
    refine zM 11 (H.sub x0n) ?_
    refine zd 12 rfl (by kernel_rfl) (fun _ _ _ h => h) (H.sub x0n) (ziS qu25 qs28) rfl ?_
    refine zl2 9 13 ?_ ?_
    ·refine b_val rfl go_none (r_load1 qg28 rfl (H.at 0 rfl) (u_get0 (i := (j - 1)) (by omega) (by omega))) rfl (H.sub x0n) ?_
     refine zl1 13 ?_
     refine b_val rfl go_none (r_load1 qg28 rfl (H.at 0 rfl) (u_get0 (i := j) (by omega) (by omega))) rfl (H.sub x0n) ?_
     refine zd 14 rfl (by kernel_rfl) (fun _ _ _ h => h) (H.sub x0n) (ziS qu25 qs28) rfl ?_
     refine zl1 15 ?_
     refine b_st rfl go_none (m_store1 H 0 qs28 rfl rfl rfl rfl (by rw [List.length_append, uC_length]; omega) (uC_setA0 _ sp j _ (by omega) (by omega))) (L' := [_]) rfl rfl (fun _ H => (H.sub x0n)) ?_
     intro w H
     refine zd 16 rfl (by kernel_rfl) (fun _ _ _ h => h) (H.sub x0n) (ziS qu25 qs28) rfl ?_
     refine zl1 17 ?_
     refine b_st rfl go_none (m_store1 H 0 qs28 rfl rfl rfl rfl (by rw [List.length_append, uC_length, List.length_set]; omega) (uC_setA0 _ sp (j - 1) _ (by rw [List.length_set]; omega) (by omega))) (L' := [_]) rfl rfl (fun _ H => (H.sub x0n)) ?_
     intro w H
     refine zz (t40 (t9 [])) ?_
     refine x_blockNormal ?_
     refine x_thenNormal ?_
     refine c_region (n := 49) ⟨rfl, rfl⟩ ?_
     refine zm ?_
     refine s_val (r_sub rfl rfl (wr (r := ((j - 1 : Nat) : Int)))) ?_
     refine za ?_
     refine zb (t40 (t9 [])) ?_
     exact ⟨j - 1, _, rfl, ⟨_, _, _, _, _, _, _, _, _, _, _, _, _, _, _, _, _, _, _, _, _, _, _, _, _, _, _, _, _, _, _, _, _, _, rfl, by omega, ((swap_permU (i := j) (j := j - 1) (by omega) (by omega)).trans hp2), H⟩, by omega⟩
    ·refine b_val rfl go_none (r_load1 qg28 rfl (H.at 0 rfl) (u_get0 (i := j) (by omega) (by omega))) rfl (H.sub x0n) ?_
     refine zl1 9 ?_
     refine b_val rfl go_none (r_load1 qg28 rfl (H.at 0 rfl) (u_get0 (i := (j - 1)) (by omega) (by omega))) rfl (H.sub x0n) ?_
     refine zd 14 rfl (by kernel_rfl) (fun _ _ _ h => h) (H.sub x0n) (ziS qu25 qs28) rfl ?_
     refine zl1 15 ?_
     refine b_st rfl go_none (m_store1 H 0 qs28 rfl rfl rfl rfl (by rw [List.length_append, uC_length]; omega) (uC_setA0 _ sp j _ (by omega) (by omega))) (L' := [_]) rfl rfl (fun _ H => (H.sub x0n)) ?_
     intro w H
     refine zd 16 rfl (by kernel_rfl) (fun _ _ _ h => h) (H.sub x0n) (ziS qu25 qs28) rfl ?_
     refine zl1 17 ?_
     refine b_st rfl go_none (m_store1 H 0 qs28 rfl rfl rfl rfl (by rw [List.length_append, uC_length, List.length_set]; omega) (uC_setA0 _ sp (j - 1) _ (by rw [List.length_set]; omega) (by omega))) (L' := [_]) rfl rfl (fun _ H => (H.sub x0n)) ?_
     intro w H
     refine zz (t40 (t9 [])) ?_
     refine x_blockNormal ?_
     refine x_thenNormal ?_
     refine c_region (n := 49) ⟨rfl, rfl⟩ ?_
     refine zm ?_
     refine s_val (r_sub rfl rfl (wr (r := ((j - 1 : Nat) : Int)))) ?_
     refine za ?_
     refine zb (t40 (t9 [])) ?_
     exact ⟨j - 1, _, rfl, ⟨_, _, _, _, _, _, _, _, _, _, _, _, _, _, _, _, _, _, _, _, _, _, _, _, _, _, _, _, _, _, _, _, _, _, rfl, by omega, ((swap_permU (i := j) (j := j - 1) (by omega) (by omega)).trans hp2), H⟩, by omega⟩
   ·refine wp_exit (x_thenExit (x_thenExit (x_blockHit ?_)))
    refine x_blockNormal ?_
    refine x_thenNormal ?_
    refine c_region (n := 49) ⟨rfl, rfl⟩ ?_
    refine zm ?_
    refine zj ?_
    refine za ?_
    refine zb (t40 (t9 [])) ?_
    exact ⟨i + 1, _, rfl, ⟨_, _, _, _, _, _, _, _, _, _, _, _, _, _, _, _, _, _, _, _, _, _, _, _, _, _, _, _, _, _, _, _, _, _, _, _, _, _, _, _, ws2, rfl, by omega, hp2, H⟩, by omega⟩
  ·refine zM 3 H ?_
   refine zN 4 H ?_
   refine zN 5 H ?_
   refine zN 6 H ?_
   refine zN 7 H ?_
   refine zN 8 H ?_
   refine zN 9 H ?_
   refine zN 10 H ?_
   refine zN 11 H ?_
   refine zN 12 H ?_
   refine zN 13 H ?_
   refine zd 14 rfl (by kernel_rfl) (fun _ _ _ h => h) H (r_pickf rfl rfl) rfl ?_
   refine zz (t40 (t9 [])) ?_
   refine x_thenNormal ?_
   refine c_iff rfl ?_
   refine wp_exit (x_thenExit (x_thenExit (x_blockHit ?_)))
   refine x_blockNormal ?_
   refine x_thenNormal ?_
   refine c_region (n := 49) ⟨rfl, rfl⟩ ?_
   refine zm ?_
   refine zj ?_
   refine za ?_
   refine zb (t40 (t9 [])) ?_
   exact ⟨i + 1, _, rfl, ⟨_, _, _, _, _, _, _, _, _, _, _, _, _, _, _, _, _, _, _, _, _, _, _, _, _, _, _, _, _, _, _, _, _, _, _, _, _, _, _, _, ws2, rfl, by omega, hp2, H⟩, by omega⟩
 ·refine wp_exit (x_thenExit (x_thenExit (x_blockHit ?_)))
  refine e_end (res0 rfl) ⟨_, rfl, ?_⟩
  exact ⟨rfl, ws, hp, H⟩

set_option maxHeartbeats 4000000 in
set_option maxRecDepth 20000 in
theorem pdqu_spec (b n cap : Nat) (zs : List Int) (sp : List Value) (hn : n = zs.length) (hl : zs.length ≤ 1000000) (lim : Int) (h12 : zs.length ≤ 12) (w0 : World) (hown : Go.Er.Own w0 [(b, .cells (uC zs ++ sp).toArray 28 (0, 0))]) :
  Calls Try.prog 81 #[.slice (some ⟨b, 0, none⟩) n cap, .int .i64 0, .int .i64 (n : Nat), .int .i64 lim] w0 fun e w => ∃ v, e = .returned v ∧ (v = .tuple #[] ∧ ∃ zs2, zs2.Perm zs ∧ St w0 [b] w [(b, .cells (uC zs2 ++ sp).toArray 28 (0, 0))]) := by
 have H : St w0 [b] w0 [(b, .cells (uC zs ++ sp).toArray 28 (0, 0))] := hown.st
 refine c_enter (args := [.slice (some ⟨b, 0, none⟩) n cap, .int .i64 0, .int .i64 (n : Nat), .int .i64 lim]) (l := t100 (t30 (t4 []))) Try.func81 Try.ntmps81 rfl rfl ?_
 refine zq 134 ⟨rfl, rfl⟩ ?_
 refine za ?_
 refine zc (t100 (t30 (t4 []))) ?_
 refine zq 134 ⟨rfl, rfl⟩ ?_
 refine za ?_
 refine zc (t100 (t30 (t4 []))) ?_
 refine wp_block ?_
 refine c_loop (fun (l0 : List Value) (k : Nat) (l : List Value) (w : World) => ∃ (u3 u8 u9 u10 u11 u12 u13 u14 u15 u16 u17 u18 u19 u20 u21 u22 u23 u24 u25 u26 u27 u28 u29 u30 u31 u32 u33 u34 u35 u36 u37 u38 u39 u40 u41 u42 u43 u44 u45 u46 u47 u48 u49 u50 u51 u52 u53 u54 u55 u56 u57 u58 u59 u60 u61 u62 u63 u64 u65 u66 u67 u68 u69 u70 u71 u72 u73 u74 u75 u76 u77 u78 u79 u80 u81 u82 u83 u84 u85 u86 u87 u88 u89 u90 u91 u92 u93 u94 u95 u96 u97 u98 u99 u100 u101 u102 u103 u104 u105 u106 u107 u108 u109 u110 u111 u112 u113 u114 u115 u116 u117 u118 u119 u120 u121 u122 u123 u124 u125 u126 u127 u128 u129 u130 u131 u132 u133 : Value) , l = ovr l0 [N_, Y_ (.int .i64 0), Y_ (.int .i64 (n : Nat)), Y_ u3, N_, N_, N_, N_, Y_ u8, Y_ u9, Y_ u10, Y_ u11, Y_ u12, Y_ u13, Y_ u14, Y_ u15, Y_ u16, Y_ u17, Y_ u18, Y_ u19, Y_ u20, Y_ u21, Y_ u22, Y_ u23, Y_ u24, Y_ u25, Y_ u26, Y_ u27, Y_ u28, Y_ u29, Y_ u30, Y_ u31, Y_ u32, Y_ u33, Y_ u34, Y_ u35, Y_ u36, Y_ u37, Y_ u38, Y_ u39, Y_ u40, Y_ u41, Y_ u42, Y_ u43, Y_ u44, Y_ u45, Y_ u46, Y_ u47, Y_ u48, Y_ u49, Y_ u50, Y_ u51, Y_ u52, Y_ u53, Y_ u54, Y_ u55, Y_ u56, Y_ u57, Y_ u58, Y_ u59, Y_ u60, Y_ u61, Y_ u62, Y_ u63, Y_ u64, Y_ u65, Y_ u66, Y_ u67, Y_ u68, Y_ u69, Y_ u70, Y_ u71, Y_ u72, Y_ u73, Y_ u74, Y_ u75, Y_ u76, Y_ u77, Y_ u78, Y_ u79, Y_ u80, Y_ u81, Y_ u82, Y_ u83, Y_ u84, Y_ u85, Y_ u86, Y_ u87, Y_ u88, Y_ u89, Y_ u90, Y_ u91, Y_ u92, Y_ u93, Y_ u94, Y_ u95, Y_ u96, Y_ u97, Y_ u98, Y_ u99, Y_ u100, Y_ u101, Y_ u102, Y_ u103, Y_ u104, Y_ u105, Y_ u106, Y_ u107, Y_ u108, Y_ u109, Y_ u110, Y_ u111, Y_ u112, Y_ u113, Y_ u114, Y_ u115, Y_ u116, Y_ u117, Y_ u118, Y_ u119, Y_ u120, Y_ u121, Y_ u122, Y_ u123, Y_ u124, Y_ u125, Y_ u126, Y_ u127, Y_ u128, Y_ u129, Y_ u130, Y_ u131, Y_ u132, Y_ u133] ∧ St w0 [b] w [(b, .cells (uC zs ++ sp).toArray 28 (0, 0))]) (fun (k : Nat) => k) 0 ⟨_, _, _, _, _, _, _, _, _, _, _, _, _, _, _, _, _, _, _, _, _, _, _, _, _, _, _, _, _, _, _, _, _, _, _, _, _, _, _, _, _, _, _, _, _, _, _, _, _, _, _, _, _, _, _, _, _, _, _, _, _, _, _, _, _, _, _, _, _, _, _, _, _, _, _, _, _, _, _, _, _, _, _, _, _, _, _, _, _, _, _, _, _, _, _, _, _, _, _, _, _, _, _, _, _, _, _, _, _, _, _, _, _, _, _, _, _, _, _, _, _, _, _, _, _, _, _, rfl, H⟩ ?_
 intro k l w ⟨u3, u8, u9, u10, u11, u12, u13, u14, u15, u16, u17, u18, u19, u20, u21, u22, u23, u24, u25, u26, u27, u28, u29, u30, u31, u32, u33, u34, u35, u36, u37, u38, u39, u40, u41, u42, u43, u44, u45, u46, u47, u48, u49, u50, u51, u52, u53, u54, u55, u56, u57, u58, u59, u60, u61, u62, u63, u64, u65, u66, u67, u68, u69, u70, u71, u72, u73, u74, u75, u76, u77, u78, u79, u80, u81, u82, u83, u84, u85, u86, u87, u88, u89, u90, u91, u92, u93, u94, u95, u96, u97, u98, u99, u100, u101, u102, u103, u104, u105, u106, u107, u108, u109, u110, u111, u112, u113, u114, u115, u116, u117, u118, u119, u120, u121, u122, u123, u124, u125, u126, u127, u128, u129, u130, u131, u132, u133, hl, H⟩
 obtain rfl := hl.trans (rfl : _ = t100 (t30 (t4 [])))
 clear hl
 refine wp_block ?_
 refine zq 134 ⟨rfl, rfl⟩ ?_
 refine zm ?_
 refine zm ?_
 refine zk ?_
 refine za ?_
 refine zc (t100 (t30 (t4 []))) ?_
 refine c_seq ?_
 refine zq 134 ⟨rfl, rfl⟩ ?_
 refine zm ?_
 refine s_val (r_leq rfl rfl) ?_
 refine zc (t100 (t30 (t4 []))) ?_
 refine c_if rfl (fun h23 => ?_) (fun h23 => ?_)
 ·refine zq 134 ⟨rfl, rfl⟩ ?_
  refine zm ?_
  refine zm ?_
  refine zm ?_
  refine s_call (r_call Try.call90 (ec rfl (ec rfl (ec rfl en)))) (isortu_spec b n cap _ sp hn hl _ (H.ownsM (List.Sublist.refl _))) ?_
  rintro v w ⟨rfl, zs2, hp, HC⟩
  replace H : St w0 [b] w [_] := St.call (F := [_]) (L := []) H HC
  refine zc (t100 (t30 (t4 []))) ?_
  refine wp_ret (x_thenRet (x_blockRet (x_thenRet (x_blockRet ?_))))
  refine zw (res0 rfl) ?_
  exact ⟨rfl, zs2, hp, H⟩
 ·exfalso; omega

set_option maxHeartbeats 4000000 in
theorem sortu_spec (b n cap : Nat) (zs : List Int) (sp : List Value) (hn : n = zs.length) (hl : zs.length ≤ 1000000) (h12 : zs.length ≤ 12) (w0 : World) (hown : Go.Er.Own w0 [(b, .cells (uC zs ++ sp).toArray 28 (0, 0))]) :
  Calls Try.prog 62 #[.slice (some ⟨b, 0, none⟩) n cap] w0 fun e w => ∃ v, e = .returned v ∧ (v = .tuple #[] ∧ ∃ zs2, zs2.Perm zs ∧ St w0 [b] w [(b, .cells (uC zs2 ++ sp).toArray 28 (0, 0))]) := by
 have H : St w0 [b] w0 [(b, .cells (uC zs ++ sp).toArray 28 (0, 0))] := hown.st
 refine c_enter (args := [.slice (some ⟨b, 0, none⟩) n cap]) (l := t10 (t1 [])) Try.func62 Try.ntmps62 rfl rfl ?_
 refine zq 11 ⟨rfl, rfl⟩ ?_
 refine zm ?_
 refine s_val (r_lens qu25 (ec rfl en)) ?_
 refine za ?_
 refine zc (t10 (t1 [])) ?_
 refine c_region (n := 11) ⟨rfl, rfl⟩ ?_
 refine zm ?_
 refine zm ?_
 refine zm ?_
 refine s_val (r_conv qu3 qu102 rfl v6) ?_
 refine s_call (r_call qc57 (ec rfl en)) (len_spec _ (by omega) _) ?_
 rintro v w ⟨c, hlen, rfl, HC⟩
 replace H := H.quiet HC
 refine s_call (r_call qc81 (ec rfl (ec rfl (ec rfl (ec rfl en))))) (pdqu_spec b n cap _ sp hn hl _ h12 _ (H.ownsM (List.Sublist.refl _))) ?_
 rintro v w ⟨rfl, zs2, hp, HC⟩
 replace H : St w0 [b] w [_] := St.call (F := [_]) (L := []) H HC
 refine zb (t10 (t1 [])) ?_
 refine e_end (res0 rfl) ⟨_, rfl, ?_⟩
 exact ⟨rfl, zs2, hp, H⟩

set_option maxHeartbeats 4000000 in
theorem keysm_spec (bm : Nat) (w0 : World) :
  Calls Try.prog 42 #[.map (some bm)] w0 fun e w => ∃ v, e = .returned v ∧ (∃ b1, v = .func (.func 63) #[] #[.pointer (some ⟨b1, 0, none⟩)] ∧ St w0 [] w [(b1, .cells [.map (some bm)].toArray 56 (0, 0))]) := by
 have H := St.refl w0
 refine c_enter (args := [.map (some bm)]) (l := t4 []) Try.func42 Try.ntmps42 rfl rfl ?_
 refine zq 4 ⟨rfl, rfl⟩ ?_
 refine s_new (m_box (cs := [.map (some bm)]) H rfl rfl) ?_
 intro w b1 H
 refine za ?_
 refine zc (t4 []) ?_
 refine zq 4 ⟨rfl, rfl⟩ ?_
 refine s_val (r_makeFunc en (ec rfl en)) ?_
 refine za ?_
 refine zc (t4 []) ?_
 refine wp_ret ?_
 refine zw (res1 rfl rfl) ?_
 exact ⟨_, rfl, H⟩

set_option maxHeartbeats 4000000 in
theorem keys1_spec (r fnr D b1 bm : Nat) (lr : List Value) (ps : List Tmp) (as_ bo : Code) (ls : List Int) (M : List Int → List (Nat × Obj) → Prop) (w1 : World) (N0 : List (Nat × Obj)) (w0 : World) (hb1 : w0.heap[b1]? = some (.cells [.map (some bm)].toArray 56 (0, 0))) (hbm : w0.heap[bm]? = some (vmO (vbU ls))) (hst : St w0 [] w1 ((r, LR .ready fnr lr ps as_ bo D) :: (D, .deferred (some [])) :: N0)) (hM : M [] N0) (hY : ∀ os n q N w, n ∈ ls → os.length < ls.length → M os N → St w0 [] w ((r, LR .ready fnr lr ps as_ bo D) :: (D, .deferred (some [])) :: q :: N) → ∃ fn' tmps as' bo', (Instr.yield r #[.int .u64 n]).run Try.prog w = .ok (.round r fn' tmps as' bo') w ∧ RoundIn Fence.wide 0 Try.prog r fn' tmps as' bo' w fun e w' => e = .returned (.bool true) ∧ ∃ N', M (os ++ [n]) N' ∧ St w0 [] w' ((r, LR .ready fnr lr ps as_ bo D) :: (D, .deferred (some [])) :: q :: N')) :
  Calls Try.prog 63 #[.func (.yield r) #[] #[], .pointer (some ⟨b1, 0, none⟩)] w1 fun e w => ∃ v, e = .returned v ∧ (v = .tuple #[] ∧ ∃ os N, os.Perm ls ∧ M os N ∧ St w0 [] w ((r, LR .ready fnr lr ps as_ bo D) :: (D, .deferred (some [])) :: N)) := by
 have H := hst
 refine c_enter (args := [.func (.yield r) #[] #[], .pointer (some ⟨b1, 0, none⟩)]) (l := t10 (t4 [])) Try.func63 Try.ntmps63 rfl rfl ?_
 refine zq 14 ⟨rfl, rfl⟩ ?_
 refine zL Try.isAgg56 (H.rd0 hb1) ?_
 refine s_new (m_rangeV H qu56 rfl (H.rd0 hbm)) ?_
 intro w bi H
 replace H := H.swp 0 (L' := (_ :: _ :: _ :: _)) rfl
 replace H := H.swp 1 (L' := (_ :: _ :: _ :: _)) rfl
 refine zc (t10 (t4 [])) ?_
 refine wp_block ?_
 refine c_loop (fun (l0 : List Value) (sn : List Nat) (l : List Value) (w : World) => ∃ (u3 u6 u7 u8 u9 u10 u11 u12 u13 : Value) (os : List Int) (N : List (Nat × Obj)), l = ovr l0 [N_, N_, N_, Y_ u3, N_, N_, Y_ u6, Y_ u7, Y_ u8, Y_ u9, Y_ u10, Y_ u11, Y_ u12, Y_ u13] ∧ SeenI ls sn os ∧ M os N ∧ St w0 [] w ((r, LR .ready fnr lr ps as_ bo D) :: (D, .deferred (some [])) :: (bi, vitO bm (vbU ls) sn) :: N)) (fun (sn : List Nat) => leftN ls.length sn) [] ⟨_, _, _, _, _, _, _, _, _, [], N0, rfl, SeenI.nil, hM, H⟩ ?_
 intro sn l w ⟨u3, u6, u7, u8, u9, u10, u11, u12, u13, os, N, hl, hO, hM, H⟩
 obtain rfl := hl.trans (rfl : _ = t10 (t4 []))
 clear hl
 refine zq 14 ⟨rfl, rfl⟩ ?_
 refine s_any (m_nextV H 2 rfl rfl (H.rd0 hbm)) ?_
 rintro v w ⟨more, rest, seen2, rfl, hmore, hdone, H⟩
 skip
 refine ze ?_
 refine zc (t10 (t4 [])) ?_
 refine c_seq ?_
 refine c_ifb rfl (fun h7 => ?_) (fun h7 => ?_)
 ·obtain ⟨ii, p, hin, hns, rfl⟩ := hmore h7
  obtain ⟨nn, hf, rfl⟩ := vbU_get hin
  have hO2 := hO.step hf hns
  have hlt : os.length < ls.length := by have h := hO2.len; rw [List.length_append] at h; exact h
  refine wp_skip ?_
  refine x_thenNormal ?_
  refine wp_block ?_
  refine zq 14 ⟨rfl, rfl⟩ ?_
  refine s_val (r_entryV rfl (H.at 2 rfl) (H.rd0 hbm) hin) ?_
  refine ze ?_
  refine za ?_
  refine zc (t10 (t4 [])) ?_
  refine c_seq ?_
  refine c_yieldK 2 (n := 14) ⟨rfl, rfl⟩ rfl rfl ?_ (by rintro ⟨_,_,_, h, _⟩; cases h)
  obtain ⟨fn2, tm2, as2, bo2, hyr, hyR⟩ := hY os nn _ N w (List.mem_of_getElem? hf) hlt hM H
  refine zm ?_
  refine zm ?_
  refine zb (t10 (t4 [])) ?_
  refine ⟨rfl, rfl, rfl, (fun _ h => nomatch h), r, _, _, _, _, r_yieldL rfl rfl hyr, hyR.mono ?_⟩
  rintro e w ⟨rfl, N1, hM1, H⟩
  skip
  refine ⟨_, rfl, wl_put (n := 14) ⟨rfl, rfl⟩ ?_⟩
  refine s_val (r_not rfl) ?_
  refine zc (t10 (t4 [])) ?_
  refine c_iff rfl ?_
  refine wp_skip ?_
  refine x_blockNormal ?_
  exact ⟨_, _, rfl, ⟨_, _, _, _, _, _, _, _, _, os ++ [nn], N1, rfl, hO2, hM1, H⟩, (leftN_lt (List.getElem?_eq_some_iff.1 hf).1 hns)⟩
 ·have hdn := hdone h7
  rw [vbU_length] at hdn
  refine wp_exit (x_thenExit (x_thenExit (x_blockHit ?_)))
  refine e_end (res0 rfl) ⟨_, rfl, ?_⟩
  exact ⟨rfl, os, N, hO.perm hdn, hM, H.sub (.cons_cons _ (.cons_cons _ (.cons _ (List.Sublist.refl _))))⟩

set_option maxHeartbeats 4000000 in
theorem aseq_spec (b1 bm : Nat) (ls : List Int) (hlen : ls.length ≤ 1000000) (w0 : World) (hb1 : w0.heap[b1]? = some (.cells [.map (some bm)].toArray 56 (0, 0))) (hbm : w0.heap[bm]? = some (vmO (vbU ls))) :
  Calls Try.prog 80 #[.slice none 0 0, (.func (.func 63) #[] #[.pointer (some ⟨b1, 0, none⟩)])] w0 fun e w => ∃ v, e = .returned v ∧ (∃ (os : List Int) (a2 : Option Addr) (c2 : Nat) (N : List (Nat × Obj)), os.Perm ls ∧ v = .slice a2 os.length c2 ∧ RowN 1 28 (uC os) os.length a2 c2 N ∧ St w0 [] w N) := by
 have H := St.refl w0
 refine cM_enter (args := [.slice none 0 0, (.func (.func 63) #[] #[.pointer (some ⟨b1, 0, none⟩)])]) (l := t10 (t3 [])) Try.func80 Try.ntmps80 rfl rfl ?_
 refine zq 13 ⟨rfl, rfl⟩ ?_
 refine s_new (m_box (cs := [.slice none 0 0]) H rfl rfl) ?_
 intro w b2 H
 refine za ?_
 refine zc (t10 (t3 [])) ?_
 refine c_seq ?_
 refine zq 13 ⟨rfl, rfl⟩ ?_
 refine zm ?_
 refine zc (t10 (t3 [])) ?_
 refine wp_block ?_
 refine c_range H rfl Try.call63 ?_
 intro fnr w bl H
 skip
 refine Calls.mono (keys1_spec (bl + 1) fnr bl b1 bm _ _ _ _ ls (fun os N => ∃ (a : Option Addr) (c : Nat) (N2 : List (Nat × Obj)), RowN 1 28 (uC os) os.length a c N2 ∧ N = (b2, .cells [.slice a os.length c].toArray 25 (0, 0)) :: N2) _ _ w0 hb1 hbm H ⟨none, 0, [], RowN.nil, rfl⟩ ?_) ?_
 ·rintro os n q _ w hn hlt ⟨a, c, N2, hN, rfl⟩ H
  refine round_out (pre := [_,_]) (c_round1 (args := [.int .u64 n]) 5 (.int .u64 n) H rfl (l1 := [_,_,_,_,_,_,_,_,_,_,_,_,_]) rfl (l2 := [_,_,_,_,_,_,_,_,_,_,_,_,_]) rfl ?_ ?_)
  ·intro K hK
   refine in_region (lets_round _) (n := 13) ⟨rfl, rfl⟩ rfl ?_
   refine za ?_
   refine in_nil (l' := t10 (t3 [])) rfl ?_
   exact hK
  ·intro w H
   refine wpIn_block ?_
   refine in_region (lets_round _) (n := 13) ⟨rfl, rfl⟩ rfl ?_
   refine zL Try.isAgg25 (H.at 3 rfl) ?_
   refine zm ?_
   refine s_new (m_bslice1 (vs := [.int .u64 n]) H qu25 qs28 qo28 (by omega) (by omega) rfl rfl rfl) ?_
   intro w b10 H
   refine s_any (m_append_row0 (L1 := [_,_,_,_,_]) (N := N2) H hN qu25 qu25 (fun _ h => nomatch h) qs28 qo28 rfl Try.typeInfo28 (by rw [bytes28]; omega) (by rw [bytes28]; omega) (ec rfl (ec rfl en)) (Src.slice (vs := [.int .u64 n]) (H.at 0 rfl) rfl rfl (by intro v hv; rw [List.mem_singleton.1 hv]; rfl))) ?_
   rintro v w ⟨a5, c5, N5, rfl, hN5, H⟩
   replace H : St w0 [] w (_ :: _ :: _ :: _ :: _ :: N5) := H
   rw [show os.length + 1 = (os ++ [n]).length by rw [List.length_append]; rfl] at hN5 ⊢
   have hN6 : RowN 1 28 (uC (os ++ [n])) (os ++ [n]).length a5 c5 N5 := by
    have e : uC (os ++ [n]) = uC os ++ [.int .u64 n] := by simp [uC]
    rw [e]; exact hN5
   refine s_st (m_store1 H 4 Try.sizeOf25 rfl rfl rfl rfl (by show 0 < 1; omega) rfl) (L' := (_ :: _ :: _ :: _ :: _ :: _)) rfl ?_
   intro w H
   refine in_nil (l' := t10 (t3 [])) rfl ?_
   refine x_blockNormal ?_
   replace H := H.sub (.cons _ (.cons_cons _ (.cons_cons _ (.cons_cons _ (.cons_cons _ (List.Sublist.refl _))))))
   exact ⟨rfl, _, H, fun _ _ => ⟨_, rfl, _, _, _, hN6, rfl⟩⟩
 ·rintro e w ⟨v, rfl, rfl, os, _, hp, ⟨a, c, N2, hN, rfl⟩, H⟩
  refine ⟨_, rfl, _, H, ?_⟩
  intro w H
  refine x_blockNormal ?_
  refine x_thenNormal ?_
  refine cD_seq ?_
  refine cD_region (n := 13) ⟨rfl, rfl⟩ rfl ?_
  refine zL Try.isAgg25 (H.at 2 rfl) ?_
  refine za ?_
  refine in_nil (l' := t10 (t3 [])) rfl ?_
  refine x_thenNormal ?_
  refine wp_ret ?_
  refine eM_retD (k := 1) H rfl (fun w H => ⟨(res1 rfl rfl), ⟨_, rfl, ?_⟩⟩)
  exact ⟨os, a, c, N2, hp, rfl, hN, H.sub (.cons _ (.cons _ (.cons _ (List.Sublist.refl _))))⟩

set_option maxHeartbeats 4000000 in
theorem collect_spec (b1 bm : Nat) (ls : List Int) (hlen : ls.length ≤ 1000000) (w0 : World) (hb1 : w0.heap[b1]? = some (.cells [.map (some bm)].toArray 56 (0, 0))) (hbm : w0.heap[bm]? = some (vmO (vbU ls))) :
  Calls Try.prog 61 #[(.func (.func 63) #[] #[.pointer (some ⟨b1, 0, none⟩)])] w0 fun e w => ∃ v, e = .returned v ∧ (∃ (os : List Int) (a2 : Option Addr) (c2 : Nat) (N : List (Nat × Obj)), os.Perm ls ∧ v = .slice a2 os.length c2 ∧ RowN 1 28 (uC os) os.length a2 c2 N ∧ St w0 [] w N) := by
 have H := St.refl w0
 refine c_enter (args := [(.func (.func 63) #[] #[.pointer (some ⟨b1, 0, none⟩)])]) (l := t5 []) Try.func61 Try.ntmps61 rfl rfl ?_
 refine zq 5 ⟨rfl, rfl⟩ ?_
 refine za ?_
 refine zc (t5 []) ?_
 refine zq 5 ⟨rfl, rfl⟩ ?_
 refine zm ?_
 refine s_call (r_call Try.call80 (ec rfl (ec rfl en))) (aseq_spec b1 bm ls hlen _ (H.rd0 hb1) (H.rd0 hbm)) ?_
 rintro v w ⟨os, a2, c2, N2, hp, rfl, hN2, HC⟩
 replace H := H.call0 HC
 refine za ?_
 refine zc (t5 []) ?_
 refine wp_ret ?_
 refine zw (res1 rfl rfl) ?_
 exact ⟨os, a2, c2, N2, hp, rfl, hN2, H.sub (List.sublist_append_left _ _)⟩

set_option maxHeartbeats 4000000 in
theorem sorted_spec (b1 bm : Nat) (ls : List Int) (hlen : ls.length ≤ 1000000) (h0 : 0 < ls.length) (h12 : ls.length ≤ 12) (w0 : World) (hb1 : w0.heap[b1]? = some (.cells [.map (some bm)].toArray 56 (0, 0))) (hbm : w0.heap[bm]? = some (vmO (vbU ls))) :
  Calls Try.prog 41 #[(.func (.func 63) #[] #[.pointer (some ⟨b1, 0, none⟩)])] w0 fun e w => ∃ v, e = .returned v ∧ (∃ (os : List Int) (a2 : Option Addr) (c2 : Nat) (N : List (Nat × Obj)), os.Perm ls ∧ v = .slice a2 os.length c2 ∧ RowN 1 28 (uC os) os.length a2 c2 N ∧ St w0 [] w N) := by
 have H := St.refl w0
 refine c_enter (args := [(.func (.func 63) #[] #[.pointer (some ⟨b1, 0, none⟩)])]) (l := t9 []) Try.func41 Try.ntmps41 rfl rfl ?_
 refine zq 9 ⟨rfl, rfl⟩ ?_
 refine za ?_
 refine zc (t9 []) ?_
 refine zq 9 ⟨rfl, rfl⟩ ?_
 refine zm ?_
 refine s_call (r_call Try.call61 (ec rfl en)) (collect_spec b1 bm ls hlen _ (H.rd0 hb1) (H.rd0 hbm)) ?_
 rintro v w ⟨os, a2, c2, N2, hp, rfl, hN2, HC⟩
 replace H := H.call0 HC
 have hol := hp.length_eq
 obtain ⟨b, sp, rfl, hc1, rfl, hc2⟩ := RowN.some hN2 (by omega)
 refine za ?_
 refine zc (t9 []) ?_
 refine zq 9 ⟨rfl, rfl⟩ ?_
 refine zm ?_
 refine s_call (r_call Try.call62 (ec rfl en)) (sortu_spec b _ c2 os sp rfl (by omega) (by omega) _ (H.ownsM (.cons_cons _ (List.nil_sublist _)))) ?_
 rintro v w ⟨rfl, zs2, hp2, HC⟩
 replace H : St w0 [] w (_ :: []) := St.call (F := [_]) H HC
 have hol2 := hp2.length_eq
 refine zc (t9 []) ?_
 refine zq 9 ⟨rfl, rfl⟩ ?_
 refine zm ?_
 refine za ?_
 refine zc (t9 []) ?_
 refine wp_ret ?_
 refine zw (res1 rfl rfl) ?_
 rw [← hol2]
 exact ⟨zs2, _, c2, _, hp2.trans hp, rfl, RowN.mk (by rw [uC_length, Nat.mul_one]) (by omega) (by rw [List.length_append, uC_length] at hc1 ⊢; omega), H⟩

end Go.Proofs.Ytobfnieebiakeaa

