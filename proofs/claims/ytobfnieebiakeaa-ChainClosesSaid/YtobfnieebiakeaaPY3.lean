import Derived.Test.YtobfnieebiakeaaPM
import Derived.Test.YtobfnieebiakeaaPY0
namespace Go.Proofs.Ytobfnieebiakeaa
open Go Go.Er

set_option maxHeartbeats 4000000 in
set_option maxRecDepth 20000 in
theorem pis_specu (b n cap : Nat) (ys : List Int) (sp : List Value) (a z : Nat) (hnl : n = ys.length) (haz : a ≤ z) (he : z ≤ ys.length) (hl : ys.length ≤ 1000000) (hz : a < z) (hah : Ahead 0 id a z ys) (w0 : World) (hown : Go.Er.Own w0 [(b, .cells (uC ys ++ sp).toArray 28 (0, 0))]) :
  Calls Try.prog 95 #[.slice (some ⟨b, 0, none⟩) n cap, .int .i64 (a : Nat), .int .i64 (z : Nat)] w0 fun e w => ∃ v, e = .returned v ∧ (∃ (r : Bool) (zs : List Int), v = .bool r ∧ Sw 0 a z ys zs ∧ (r = true → Srt 0 id a z zs) ∧ St w0 [b] w [(b, .cells (uC zs ++ sp).toArray 28 (0, 0))]) := by
 have H : St w0 [b] w0 [(b, .cells (uC ys ++ sp).toArray 28 (0, 0))] := hown.st
 refine c_enter (args := [.slice (some ⟨b, 0, none⟩) n cap, .int .i64 (a : Nat), .int .i64 (z : Nat)]) (l := t100 (t30 (t3 []))) Try.func95 Try.ntmps95 rfl rfl ?_
 refine zq 133 ⟨rfl, rfl⟩ ?_
 refine za ?_
 refine zc (t100 (t30 (t3 []))) ?_
 refine zq 133 ⟨rfl, rfl⟩ ?_
 refine zm ?_
 refine s_val (r_add rfl rfl (wr (r := ((a + 1 : Nat) : Int)))) ?_
 refine za ?_
 refine zc (t100 (t30 (t3 []))) ?_
 refine c_seq ?_
 refine zq 133 ⟨rfl, rfl⟩ ?_
 refine za ?_
 refine zc (t100 (t30 (t3 []))) ?_
 refine wp_block ?_
 refine c_loop (fun (l0 : List Value) (q : Nat) (l : List Value) (w : World) => ∃ (u6 u9 u10 u13 u14 u15 u16 u17 u18 u19 u20 u21 u22 u23 u24 u25 u26 u27 u28 u29 u30 u31 u32 u33 u34 u35 u36 u37 u38 u39 u40 u41 u42 u43 u44 u45 u46 u47 u48 u49 u50 u51 u52 u53 u54 u55 u56 u57 u58 u59 u60 u61 u62 u63 u64 u65 u66 u67 u68 u69 u70 u71 u72 u73 u74 u75 u76 u77 u78 u79 u80 u81 u82 u83 u84 u85 u86 u87 u88 u89 u90 u91 u92 u93 u94 u95 u96 u97 u98 u99 u100 u101 u102 u103 u104 u105 u106 u107 u108 u109 u110 u111 u112 u113 u114 u115 u116 u117 u118 u119 u120 u121 u122 u123 u124 u125 u126 u127 u128 u129 u130 u131 u132 : Value) (i : Nat) (zs : List Int), l = ovr l0 [N_, N_, N_, N_, N_, N_, Y_ u6, Y_ (.int .i64 i), Y_ (.int .i64 q), Y_ u9, Y_ u10, N_, N_, Y_ u13, Y_ u14, Y_ u15, Y_ u16, Y_ u17, Y_ u18, Y_ u19, Y_ u20, Y_ u21, Y_ u22, Y_ u23, Y_ u24, Y_ u25, Y_ u26, Y_ u27, Y_ u28, Y_ u29, Y_ u30, Y_ u31, Y_ u32, Y_ u33, Y_ u34, Y_ u35, Y_ u36, Y_ u37, Y_ u38, Y_ u39, Y_ u40, Y_ u41, Y_ u42, Y_ u43, Y_ u44, Y_ u45, Y_ u46, Y_ u47, Y_ u48, Y_ u49, Y_ u50, Y_ u51, Y_ u52, Y_ u53, Y_ u54, Y_ u55, Y_ u56, Y_ u57, Y_ u58, Y_ u59, Y_ u60, Y_ u61, Y_ u62, Y_ u63, Y_ u64, Y_ u65, Y_ u66, Y_ u67, Y_ u68, Y_ u69, Y_ u70, Y_ u71, Y_ u72, Y_ u73, Y_ u74, Y_ u75, Y_ u76, Y_ u77, Y_ u78, Y_ u79, Y_ u80, Y_ u81, Y_ u82, Y_ u83, Y_ u84, Y_ u85, Y_ u86, Y_ u87, Y_ u88, Y_ u89, Y_ u90, Y_ u91, Y_ u92, Y_ u93, Y_ u94, Y_ u95, Y_ u96, Y_ u97, Y_ u98, Y_ u99, Y_ u100, Y_ u101, Y_ u102, Y_ u103, Y_ u104, Y_ u105, Y_ u106, Y_ u107, Y_ u108, Y_ u109, Y_ u110, Y_ u111, Y_ u112, Y_ u113, Y_ u114, Y_ u115, Y_ u116, Y_ u117, Y_ u118, Y_ u119, Y_ u120, Y_ u121, Y_ u122, Y_ u123, Y_ u124, Y_ u125, Y_ u126, Y_ u127, Y_ u128, Y_ u129, Y_ u130, Y_ u131, Y_ u132] ∧ q ≤ 5 ∧ a < i ∧ i ≤ z ∧ Sw 0 a z ys zs ∧ Srt 0 id a i zs ∧ St w0 [b] w [(b, .cells (uC zs ++ sp).toArray 28 (0, 0))]) (fun (q : Nat) => 5 - q) 0 ⟨_, _, _, _, _, _, _, _, _, _, _, _, _, _, _, _, _, _, _, _, _, _, _, _, _, _, _, _, _, _, _, _, _, _, _, _, _, _, _, _, _, _, _, _, _, _, _, _, _, _, _, _, _, _, _, _, _, _, _, _, _, _, _, _, _, _, _, _, _, _, _, _, _, _, _, _, _, _, _, _, _, _, _, _, _, _, _, _, _, _, _, _, _, _, _, _, _, _, _, _, _, _, _, _, _, _, _, _, _, _, _, _, _, _, _, _, _, _, _, _, _, _, _, (a + 1), ys, rfl, by omega, by omega, by omega, .refl, (fun p q _ _ _ => by omega), H⟩ ?_
 intro q l w ⟨u6, u9, u10, u13, u14, u15, u16, u17, u18, u19, u20, u21, u22, u23, u24, u25, u26, u27, u28, u29, u30, u31, u32, u33, u34, u35, u36, u37, u38, u39, u40, u41, u42, u43, u44, u45, u46, u47, u48, u49, u50, u51, u52, u53, u54, u55, u56, u57, u58, u59, u60, u61, u62, u63, u64, u65, u66, u67, u68, u69, u70, u71, u72, u73, u74, u75, u76, u77, u78, u79, u80, u81, u82, u83, u84, u85, u86, u87, u88, u89, u90, u91, u92, u93, u94, u95, u96, u97, u98, u99, u100, u101, u102, u103, u104, u105, u106, u107, u108, u109, u110, u111, u112, u113, u114, u115, u116, u117, u118, u119, u120, u121, u122, u123, u124, u125, u126, u127, u128, u129, u130, u131, u132, i, zs, hl, hq, hai, hiz, hsw, hs, H⟩
 obtain rfl := hl.trans (rfl : _ = t100 (t30 (t3 [])))
 clear hl
 have hlen := hsw.length
 refine c_seq ?_
 refine zq 133 ⟨rfl, rfl⟩ ?_
 refine zm ?_
 refine s_val (r_lss rfl rfl) ?_
 refine zc (t100 (t30 (t3 []))) ?_
 refine c_if rfl (fun h14 => ?_) (fun h14 => ?_)
 ·refine wp_skip ?_
  refine x_thenNormal ?_
  refine c_seq ?_
  refine wp_block ?_
  refine c_seq ?_
  refine wp_block ?_
  refine c_loop (fun (l0 : List Value) (i : Nat) (l : List Value) (w : World) => ∃ (u17 u18 u19 u20 u21 u22 u23 u24 u25 u26 u27 u28 u29 u30 u31 u32 u33 u34 : Value) , l = ovr l0 [N_, N_, N_, N_, N_, N_, N_, Y_ (.int .i64 i), N_, N_, N_, N_, N_, N_, N_, N_, N_, Y_ u17, Y_ u18, Y_ u19, Y_ u20, Y_ u21, Y_ u22, Y_ u23, Y_ u24, Y_ u25, Y_ u26, Y_ u27, Y_ u28, Y_ u29, Y_ u30, Y_ u31, Y_ u32, Y_ u33, Y_ u34] ∧ a < i ∧ i ≤ z ∧ Srt 0 id a i zs ∧ St w0 [b] w [(b, .cells (uC zs ++ sp).toArray 28 (0, 0))]) (fun (i : Nat) => z - i) i ⟨_, _, _, _, _, _, _, _, _, _, _, _, _, _, _, _, _, _, rfl, hai, hiz, hs, H⟩ ?_
  intro i l w ⟨u17, u18, u19, u20, u21, u22, u23, u24, u25, u26, u27, u28, u29, u30, u31, u32, u33, u34, hl, hai, hiz, hs, H⟩
  obtain rfl := hl.trans (rfl : _ = t100 (t30 (t3 [])))
  clear hl
  refine c_seq ?_
  refine c_seq ?_
  refine d_begin (sz := 133) ⟨rfl, rfl⟩ (by kernel_rfl) H (H) rfl ?_
  intro w H
  refine zM 0 H ?_
  refine zM 1 H ?_
  refine zd 2 rfl (by kernel_rfl) (fun _ _ _ h => h) H (r_lss rfl rfl) rfl ?_
  refine d_part (fun h19 => ?_) (fun h19 => ?_)
  ·refine zM 3 H ?_
   refine zG 4 rfl rfl rfl (by kernel_rfl) (fun _ _ _ h => h) H (r_move rfl) rfl ?_
   refine zG 5 rfl rfl rfl (by kernel_rfl) (fun _ _ _ h => h) H (r_move rfl) rfl ?_
   refine zG 6 rfl rfl rfl (by kernel_rfl) (fun _ _ _ h => h) H (ziS qu25 qs28) rfl ?_
   refine zGh 7 rfl rfl rfl (by kernel_rfl) (fun _ _ _ h => h) H (fun HS => r_load1 qg28 rfl (HS.at 0 rfl) (u_get0 (i := i) (by omega) (by omega))) rfl ?_
   refine zG 8 rfl rfl rfl (by kernel_rfl) (fun _ _ _ h => h) H (r_move rfl) rfl ?_
   refine zG 9 rfl rfl rfl (by kernel_rfl) (fun _ _ _ h => h) H (r_move rfl) rfl ?_
   refine zG 10 rfl rfl rfl (by kernel_rfl) (fun _ _ _ h => h) H (r_sub rfl rfl (wr (r := ((i - 1 : Nat) : Int)))) rfl ?_
   refine zG 11 rfl rfl rfl (by kernel_rfl) (fun _ _ _ h => h) H (ziS qu25 qs28) rfl ?_
   refine zGh 12 rfl rfl rfl (by kernel_rfl) (fun _ _ _ h => h) H (fun HS => r_load1 qg28 rfl (HS.at 0 rfl) (u_get0 (i := i - 1) (by omega) (by omega))) rfl ?_
   refine zl1 13 ?_
   refine b_call rfl (go_some rfl rfl) (r_call qc96 (ec rfl (ec rfl en))) (less_spec _ _ _) rfl ?_
   rintro v w ⟨rfl, HC⟩
   replace H := H.quiet HC
   refine ⟨H, ?_⟩
   refine zG 14 rfl rfl rfl (by kernel_rfl) (fun _ _ _ h => h) H (r_notp rfl) rfl ?_
   refine zd 15 rfl (by kernel_rfl) (fun _ _ _ h => h) H (r_pickt rfl rfl) rfl ?_
   refine zz (t100 (t30 (t3 []))) ?_
   refine x_thenNormal ?_
   refine c_if rfl (fun h32 => ?_) (fun h32 => ?_)
   ·have hcm36 := h32
    refine wp_skip ?_
    refine x_thenNormal ?_
    refine wp_block ?_
    refine c_region (n := 133) ⟨rfl, rfl⟩ ?_
    refine zm ?_
    refine zj ?_
    refine za ?_
    refine zb (t100 (t30 (t3 []))) ?_
    refine x_blockNormal ?_
    exact ⟨i + 1, _, rfl, ⟨_, _, _, _, _, _, _, _, _, _, _, _, _, _, _, _, _, _, rfl, by omega, by omega, (hs.snoc hcm36), H⟩, by omega⟩
   ·have hcm36 := Decidable.not_not.1 h32
    refine wp_exit (x_thenExit (x_thenExit (x_blockHit ?_)))
    refine x_thenNormal ?_
    refine c_seq ?_
    refine zq 133 ⟨rfl, rfl⟩ ?_
    refine zm ?_
    refine zm ?_
    refine s_val (r_eql rfl rfl) ?_
    refine zc (t100 (t30 (t3 []))) ?_
    refine c_if rfl (fun h37 => ?_) (fun h37 => ?_)
    ·obtain rfl : i = z := by omega
     refine zq 133 ⟨rfl, rfl⟩ ?_
     refine za ?_
     refine zc (t100 (t30 (t3 []))) ?_
     refine wp_ret (x_thenRet (x_blockRet (x_thenRet (x_thenRet (x_blockRet (x_thenRet ?_))))))
     refine zw (res1 rfl rfl) ?_
     exact ⟨true, zs, rfl, hsw, fun _ => hs, H⟩
    ·refine wp_skip ?_
     refine x_thenNormal ?_
     refine c_seq ?_
     refine zq 133 ⟨rfl, rfl⟩ ?_
     refine zm ?_
     refine zm ?_
     refine s_val (r_sub rfl rfl (wr (r := ((z - a : Nat) : Int)))) ?_
     refine s_val (r_lss rfl rfl) ?_
     refine zc (t100 (t30 (t3 []))) ?_
     refine c_if rfl (fun h41 => ?_) (fun h41 => ?_)
     ·refine zq 133 ⟨rfl, rfl⟩ ?_
      refine za ?_
      refine zc (t100 (t30 (t3 []))) ?_
      refine wp_ret (x_thenRet (x_blockRet (x_thenRet (x_thenRet (x_blockRet (x_thenRet ?_))))))
      refine zw (res1 rfl rfl) ?_
      exact ⟨false, zs, rfl, hsw, (fun h => nomatch h), H⟩
     ·refine wp_skip ?_
      refine x_thenNormal ?_
      refine c_seq ?_
      refine d_begin (sz := 133) ⟨rfl, rfl⟩ (by kernel_rfl) H (H.sub x0n) rfl ?_
      intro w H
      refine zM 0 (H.sub x0n) ?_
      refine zM 1 (H.sub x0n) ?_
      refine zM 2 (H.sub x0n) ?_
      refine zM 3 (H.sub x0n) ?_
      refine zd 4 rfl (by kernel_rfl) (fun _ _ _ h => h) (H.sub x0n) (r_sub rfl rfl (wr (r := ((i - 1 : Nat) : Int)))) rfl ?_
      refine zM 5 (H.sub x0n) ?_
      refine zM 6 (H.sub x0n) ?_
      refine zd 7 rfl (by kernel_rfl) (fun _ _ _ h => h) (H.sub x0n) (r_sub rfl rfl (wr (r := ((i - 1 : Nat) : Int)))) rfl ?_
      refine zd 8 rfl (by kernel_rfl) (fun _ _ _ h => h) (H.sub x0n) (ziS qu25 qs28) rfl ?_
      refine zM 10 (H.sub x0n) ?_
      refine zM 11 (H.sub x0n) ?_
      refine zd 12 rfl (by kernel_rfl) (fun _ _ _ h => h) (H.sub x0n) (ziS qu25 qs28) rfl ?_
      refine zl2 9 13 ?_ ?_
      ·refine b_val rfl go_none (r_load1 qg28 rfl (H.at 0 rfl) (u_get0 (i := i - 1) (by omega) (by omega))) rfl (H.sub x0n) ?_
       refine zl1 13 ?_
       refine b_val rfl go_none (r_load1 qg28 rfl (H.at 0 rfl) (u_get0 (i := i) (by omega) (by omega))) rfl (H.sub x0n) ?_
       refine zd 14 rfl (by kernel_rfl) (fun _ _ _ h => h) (H.sub x0n) (ziS qu25 qs28) rfl ?_
       refine zl1 15 ?_
       refine b_st rfl go_none (m_store1 H 0 qs28 rfl rfl rfl rfl (by rw [List.length_append, uC_length]; omega) (uC_setA0 _ sp (i) _ (by omega) (by omega))) (L' := [_]) rfl rfl (fun _ H => (H.sub x0n)) ?_
       intro w H
       refine zd 16 rfl (by kernel_rfl) (fun _ _ _ h => h) (H.sub x0n) (ziS qu25 qs28) rfl ?_
       refine zl1 17 ?_
       refine b_st rfl go_none (m_store1 H 0 qs28 rfl rfl rfl rfl (by rw [List.length_append, uC_length, List.length_set]; omega) (uC_setA0 _ sp (i - 1) _ (by rw [List.length_set]; omega) (by omega))) (L' := [_]) rfl rfl (fun _ H => (H.sub x0n)) ?_
       intro w H
       refine zz (t100 (t30 (t3 []))) ?_
       refine x_thenNormal ?_
       refine c_cut (fun (l0 : List Value) (l : List Value) (w : World) => ∃ (u9 u58 u59 u60 u61 u62 u63 u64 u65 u66 u67 u68 u69 u70 u71 u72 u73 u74 u75 u76 u77 u78 u79 u80 u81 u82 u83 u84 u85 u86 u87 u88 u89 u90 u91 u92 u93 u94 : Value) (zs2 : List Int), l = ovr l0 [N_, N_, N_, N_, N_, N_, N_, N_, N_, Y_ u9, N_, N_, N_, N_, N_, N_, N_, N_, N_, N_, N_, N_, N_, N_, N_, N_, N_, N_, N_, N_, N_, N_, N_, N_, N_, N_, N_, N_, N_, N_, N_, N_, N_, N_, N_, N_, N_, N_, N_, N_, N_, N_, N_, N_, N_, N_, N_, N_, Y_ u58, Y_ u59, Y_ u60, Y_ u61, Y_ u62, Y_ u63, Y_ u64, Y_ u65, Y_ u66, Y_ u67, Y_ u68, Y_ u69, Y_ u70, Y_ u71, Y_ u72, Y_ u73, Y_ u74, Y_ u75, Y_ u76, Y_ u77, Y_ u78, Y_ u79, Y_ u80, Y_ u81, Y_ u82, Y_ u83, Y_ u84, Y_ u85, Y_ u86, Y_ u87, Y_ u88, Y_ u89, Y_ u90, Y_ u91, Y_ u92, Y_ u93, Y_ u94] ∧ Sw 0 a z ys zs2 ∧ Srt 0 id a i zs2 ∧ St w0 [b] w [(b, .cells (uC zs2 ++ sp).toArray 28 (0, 0))]) ?_ ?_
       ·refine zq 133 ⟨rfl, rfl⟩ ?_
        have hsw1 : Sw 0 a z ys (swp2 0 zs i (i - 1)) := .step i (i - 1) hsw ⟨by omega, by omega⟩ ⟨by omega, by omega⟩ he
        have hin1 := hs.pair (by omega) (by omega) (Decidable.not_not.1 h32)
        have hlen1 := hsw1.length
        refine zm ?_
        refine zm ?_
        refine s_val (r_sub rfl rfl (wr (r := ((i - a : Nat) : Int)))) ?_
        refine s_val (r_geq rfl rfl) ?_
        refine zc (t100 (t30 (t3 []))) ?_
        refine c_if rfl (fun h61 => ?_) (fun h61 => ?_)
        ·refine zq 133 ⟨rfl, rfl⟩ ?_
         refine zm ?_
         refine s_val (r_sub rfl rfl (wr (r := ((i - 1 : Nat) : Int)))) ?_
         refine za ?_
         refine zc (t100 (t30 (t3 []))) ?_
         refine wp_block ?_
         refine c_loop (fun (l0 : List Value) (j : Nat) (l : List Value) (w : World) => ∃ (u64 u65 u66 u67 u68 u69 u70 u71 u72 u73 u74 u75 u76 u77 u78 u79 u80 u81 u82 u83 u84 u85 u86 u87 u88 u89 u90 u91 u92 u93 u94 : Value) (zs2 : List Int), l = ovr l0 [N_, N_, N_, N_, N_, N_, N_, N_, N_, Y_ (.int .i64 (j : Nat)), N_, N_, N_, N_, N_, N_, N_, N_, N_, N_, N_, N_, N_, N_, N_, N_, N_, N_, N_, N_, N_, N_, N_, N_, N_, N_, N_, N_, N_, N_, N_, N_, N_, N_, N_, N_, N_, N_, N_, N_, N_, N_, N_, N_, N_, N_, N_, N_, N_, N_, N_, N_, N_, N_, Y_ u64, Y_ u65, Y_ u66, Y_ u67, Y_ u68, Y_ u69, Y_ u70, Y_ u71, Y_ u72, Y_ u73, Y_ u74, Y_ u75, Y_ u76, Y_ u77, Y_ u78, Y_ u79, Y_ u80, Y_ u81, Y_ u82, Y_ u83, Y_ u84, Y_ u85, Y_ u86, Y_ u87, Y_ u88, Y_ u89, Y_ u90, Y_ u91, Y_ u92, Y_ u93, Y_ u94] ∧ a ≤ j ∧ j ≤ i - 1 ∧ Sw 0 a z ys zs2 ∧ Ins 0 id a i j zs2 ∧ St w0 [b] w [(b, .cells (uC zs2 ++ sp).toArray 28 (0, 0))]) (fun (j : Nat) => j) (i - 1) ⟨_, _, _, _, _, _, _, _, _, _, _, _, _, _, _, _, _, _, _, _, _, _, _, _, _, _, _, _, _, _, _, _, rfl, by omega, by omega, hsw1, hin1, H⟩ ?_
         intro j l w ⟨u64, u65, u66, u67, u68, u69, u70, u71, u72, u73, u74, u75, u76, u77, u78, u79, u80, u81, u82, u83, u84, u85, u86, u87, u88, u89, u90, u91, u92, u93, u94, zs2, hl, hja, hji, hsw2, hin, H⟩
         obtain rfl := hl.trans (rfl : _ = t100 (t30 (t3 [])))
         clear hl
         have hlen2 := hsw2.length
         refine c_seq ?_
         refine zq 133 ⟨rfl, rfl⟩ ?_
         refine zm ?_
         refine s_val (r_geq rfl rfl) ?_
         refine zc (t100 (t30 (t3 []))) ?_
         refine c_if rfl (fun h65 => ?_) (fun h65 => ?_)
         ·refine wp_skip ?_
          refine x_thenNormal ?_
          refine c_seq ?_
          refine wp_block ?_
          refine c_seq ?_
          refine c_seq ?_
          refine d_begin (sz := 133) ⟨rfl, rfl⟩ (by kernel_rfl) H (H) rfl ?_
          intro w H
          refine zM 0 H ?_
          refine zM 1 H ?_
          refine zd 2 rfl (by kernel_rfl) (fun _ _ _ h => h) H (ziS qu25 qs28) rfl ?_
          refine zdh 3 rfl (by kernel_rfl) (fun _ _ _ h => h) H (fun HS => r_load1 qg28 rfl (HS.at 0 rfl) (u_get0 (i := j) (by omega) (by omega))) rfl ?_
          refine zM 4 H ?_
          refine zM 5 H ?_
          refine zd 6 rfl (by kernel_rfl) (fun _ _ _ h => h) H (r_sub rfl rfl (wr (r := ((j - 1 : Nat) : Int)))) rfl ?_
          refine zd 7 rfl (by kernel_rfl) (fun _ _ _ h => h) H (ziS qu25 qs28) rfl ?_
          refine zdh 8 rfl (by kernel_rfl) (fun _ _ _ h => h) H (fun HS => r_load1 qg28 rfl (HS.at 0 rfl) (u_get0 (i := j - 1) (by omega) (by omega))) rfl ?_
          refine zl1 9 ?_
          refine b_call rfl go_none (r_call qc96 (ec rfl (ec rfl en))) (less_spec _ _ _) rfl ?_
          rintro v w ⟨rfl, HC⟩
          replace H := H.quiet HC
          refine ⟨H, ?_⟩
          refine zd 10 rfl (by kernel_rfl) (fun _ _ _ h => h) H (r_notp rfl) rfl ?_
          refine zz (t100 (t30 (t3 []))) ?_
          refine x_thenNormal ?_
          refine c_if rfl (fun h78 => ?_) (fun h78 => ?_)
          ·have hcm84 := h78
           refine wp_exit (x_thenExit (x_blockMiss (by decide) (x_thenExit (x_thenExit (x_blockHit ?_)))))
           exact ⟨_, rfl, ⟨_, _, _, _, _, _, _, _, _, _, _, _, _, _, _, _, _, _, _, _, _, _, _, _, _, _, _, _, _, _, _, _, _, _, _, _, _, _, _, rfl, hsw2, ((hin.fin (by omega) (fun _ => hcm84)).cut (by omega)), H⟩⟩
          ·have hcm84 : kk 0 id zs2 j < kk 0 id zs2 (j - 1) := Decidable.not_not.1 h78
           have hja2 : a < j := by
            refine (Nat.lt_or_eq_of_le hja).resolve_right fun e => ?_
            subst e
            have := (hah.sw hsw2) (by omega) a (Nat.le_refl _) (by omega)
            omega
           refine wp_skip ?_
           refine x_thenNormal ?_
           refine d_begin (sz := 133) ⟨rfl, rfl⟩ (by kernel_rfl) H (H.sub x0n) rfl ?_
           intro w H
           refine zM 0 (H.sub x0n) ?_
           refine zM 1 (H.sub x0n) ?_
           refine zM 2 (H.sub x0n) ?_
           refine zM 3 (H.sub x0n) ?_
           refine zd 4 rfl (by kernel_rfl) (fun _ _ _ h => h) (H.sub x0n) (r_sub rfl rfl (wr (r := ((j - 1 : Nat) : Int)))) rfl ?_
           refine zM 5 (H.sub x0n) ?_
           refine zM 6 (H.sub x0n) ?_
           refine zd 7 rfl (by kernel_rfl) (fun _ _ _ h => h) (H.sub x0n) (r_sub rfl rfl (wr (r := ((j - 1 : Nat) : Int)))) rfl ?_
           refine zd 8 rfl (by kernel_rfl) (fun _ _ _ h => h) (H.sub x0n) (ziS qu25 qs28) rfl ?_
           refine zM 10 (H.sub x0n) ?_
           refine zM 11 (H.sub x0n) ?_
           refine zd 12 rfl (by kernel_rfl) (fun _ _ _ h => h) (H.sub x0n) (ziS qu25 qs28) rfl ?_
           refine zl2 9 13 ?_ ?_
           ·refine b_val rfl go_none (r_load1 qg28 rfl (H.at 0 rfl) (u_get0 (i := j - 1) (by omega) (by omega))) rfl (H.sub x0n) ?_
            refine zl1 13 ?_
            refine b_val rfl go_none (r_load1 qg28 rfl (H.at 0 rfl) (u_get0 (i := j) (by omega) (by omega))) rfl (H.sub x0n) ?_
            refine zd 14 rfl (by kernel_rfl) (fun _ _ _ h => h) (H.sub x0n) (ziS qu25 qs28) rfl ?_
            refine zl1 15 ?_
            refine b_st rfl go_none (m_store1 H 0 qs28 rfl rfl rfl rfl (by rw [List.length_append, uC_length]; omega) (uC_setA0 _ sp (j) _ (by omega) (by omega))) (L' := [_]) rfl rfl (fun _ H => (H.sub x0n)) ?_
            intro w H
            refine zd 16 rfl (by kernel_rfl) (fun _ _ _ h => h) (H.sub x0n) (ziS qu25 qs28) rfl ?_
            refine zl1 17 ?_
            refine b_st rfl go_none (m_store1 H 0 qs28 rfl rfl rfl rfl (by rw [List.length_append, uC_length, List.length_set]; omega) (uC_setA0 _ sp (j - 1) _ (by rw [List.length_set]; omega) (by omega))) (L' := [_]) rfl rfl (fun _ H => (H.sub x0n)) ?_
            intro w H
            refine zz (t100 (t30 (t3 []))) ?_
            refine x_blockNormal ?_
            refine x_thenNormal ?_
            refine c_region (n := 133) ⟨rfl, rfl⟩ ?_
            refine zm ?_
            refine s_val (r_sub rfl rfl (wr (r := ((j - 1 : Nat) : Int)))) ?_
            refine za ?_
            refine zb (t100 (t30 (t3 []))) ?_
            exact ⟨j - 1, _, rfl, ⟨_, _, _, _, _, _, _, _, _, _, _, _, _, _, _, _, _, _, _, _, _, _, _, _, _, _, _, _, _, _, _, swp2 0 zs2 j (j - 1), rfl, by omega, by omega, (.step j (j - 1) hsw2 ⟨by omega, by omega⟩ ⟨by omega, by omega⟩ he), (hin.step (by omega) (by omega) (by omega) hcm84), H⟩, by omega⟩
           ·refine b_val rfl go_none (r_load1 qg28 rfl (H.at 0 rfl) (u_get0 (i := j) (by omega) (by omega))) rfl (H.sub x0n) ?_
            refine zl1 9 ?_
            refine b_val rfl go_none (r_load1 qg28 rfl (H.at 0 rfl) (u_get0 (i := j - 1) (by omega) (by omega))) rfl (H.sub x0n) ?_
            refine zd 14 rfl (by kernel_rfl) (fun _ _ _ h => h) (H.sub x0n) (ziS qu25 qs28) rfl ?_
            refine zl1 15 ?_
            refine b_st rfl go_none (m_store1 H 0 qs28 rfl rfl rfl rfl (by rw [List.length_append, uC_length]; omega) (uC_setA0 _ sp (j) _ (by omega) (by omega))) (L' := [_]) rfl rfl (fun _ H => (H.sub x0n)) ?_
            intro w H
            refine zd 16 rfl (by kernel_rfl) (fun _ _ _ h => h) (H.sub x0n) (ziS qu25 qs28) rfl ?_
            refine zl1 17 ?_
            refine b_st rfl go_none (m_store1 H 0 qs28 rfl rfl rfl rfl (by rw [List.length_append, uC_length, List.length_set]; omega) (uC_setA0 _ sp (j - 1) _ (by rw [List.length_set]; omega) (by omega))) (L' := [_]) rfl rfl (fun _ H => (H.sub x0n)) ?_
            intro w H
            refine zz (t100 (t30 (t3 []))) ?_
            refine x_blockNormal ?_
            refine x_thenNormal ?_
            refine c_region (n := 133) ⟨rfl, rfl⟩ ?_
            refine zm ?_
            refine s_val (r_sub rfl rfl (wr (r := ((j - 1 : Nat) : Int)))) ?_
            refine za ?_
            refine zb (t100 (t30 (t3 []))) ?_
            exact ⟨j - 1, _, rfl, ⟨_, _, _, _, _, _, _, _, _, _, _, _, _, _, _, _, _, _, _, _, _, _, _, _, _, _, _, _, _, _, _, swp2 0 zs2 j (j - 1), rfl, by omega, by omega, (.step j (j - 1) hsw2 ⟨by omega, by omega⟩ ⟨by omega, by omega⟩ he), (hin.step (by omega) (by omega) (by omega) hcm84), H⟩, by omega⟩
         ·refine wp_exit (x_thenExit (x_thenExit (x_blockHit ?_)))
          exact ⟨_, rfl, ⟨_, _, _, _, _, _, _, _, _, _, _, _, _, _, _, _, _, _, _, _, _, _, _, _, _, _, _, _, _, _, _, _, _, _, _, _, _, _, _, rfl, hsw2, ((hin.fin (by omega) (fun h => by omega)).cut (by omega)), H⟩⟩
        ·refine wp_skip ?_
         exact ⟨_, rfl, ⟨_, _, _, _, _, _, _, _, _, _, _, _, _, _, _, _, _, _, _, _, _, _, _, _, _, _, _, _, _, _, _, _, _, _, _, _, _, _, _, rfl, hsw1, ((hin1.fin (by omega) (fun h => by omega)).cut (by omega)), H⟩⟩
       ·rintro l w ⟨u9, u58, u59, u60, u61, u62, u63, u64, u65, u66, u67, u68, u69, u70, u71, u72, u73, u74, u75, u76, u77, u78, u79, u80, u81, u82, u83, u84, u85, u86, u87, u88, u89, u90, u91, u92, u93, u94, zs2, hl, hsw2, hs2, H⟩
        obtain rfl := hl.trans (rfl : _ = t100 (t30 (t3 [])))
        clear hl
        have hlen2 := hsw2.length
        refine zq 133 ⟨rfl, rfl⟩ ?_
        refine zm ?_
        refine zm ?_
        refine s_val (r_sub rfl rfl (wr (r := ((z - i : Nat) : Int)))) ?_
        refine s_val (r_geq rfl rfl) ?_
        refine zc (t100 (t30 (t3 []))) ?_
        refine c_if rfl (fun h98 => ?_) (fun h98 => ?_)
        ·refine zq 133 ⟨rfl, rfl⟩ ?_
         refine zm ?_
         refine s_val (r_add rfl rfl (wr (r := ((i + 1 : Nat) : Int)))) ?_
         refine za ?_
         refine zc (t100 (t30 (t3 []))) ?_
         refine wp_block ?_
         refine c_loop (fun (l0 : List Value) (j : Nat) (l : List Value) (w : World) => ∃ (u101 u102 u103 u104 u105 u106 u107 u108 u109 u110 u111 u112 u113 u114 u115 u116 u117 u118 u119 u120 u121 u122 u123 u124 u125 u126 u127 u128 u129 u130 u131 u132 : Value) (zs3 : List Int), l = ovr l0 [N_, N_, N_, N_, N_, N_, N_, N_, N_, N_, Y_ (.int .i64 (j : Nat)), N_, N_, N_, N_, N_, N_, N_, N_, N_, N_, N_, N_, N_, N_, N_, N_, N_, N_, N_, N_, N_, N_, N_, N_, N_, N_, N_, N_, N_, N_, N_, N_, N_, N_, N_, N_, N_, N_, N_, N_, N_, N_, N_, N_, N_, N_, N_, N_, N_, N_, N_, N_, N_, N_, N_, N_, N_, N_, N_, N_, N_, N_, N_, N_, N_, N_, N_, N_, N_, N_, N_, N_, N_, N_, N_, N_, N_, N_, N_, N_, N_, N_, N_, N_, N_, N_, N_, N_, N_, N_, Y_ u101, Y_ u102, Y_ u103, Y_ u104, Y_ u105, Y_ u106, Y_ u107, Y_ u108, Y_ u109, Y_ u110, Y_ u111, Y_ u112, Y_ u113, Y_ u114, Y_ u115, Y_ u116, Y_ u117, Y_ u118, Y_ u119, Y_ u120, Y_ u121, Y_ u122, Y_ u123, Y_ u124, Y_ u125, Y_ u126, Y_ u127, Y_ u128, Y_ u129, Y_ u130, Y_ u131, Y_ u132] ∧ i + 1 ≤ j ∧ j ≤ z ∧ Sw 0 a z ys zs3 ∧ Srt 0 id a i zs3 ∧ St w0 [b] w [(b, .cells (uC zs3 ++ sp).toArray 28 (0, 0))]) (fun (j : Nat) => z - j) (i + 1) ⟨_, _, _, _, _, _, _, _, _, _, _, _, _, _, _, _, _, _, _, _, _, _, _, _, _, _, _, _, _, _, _, _, _, rfl, by omega, by omega, hsw2, hs2, H⟩ ?_
         intro j l w ⟨u101, u102, u103, u104, u105, u106, u107, u108, u109, u110, u111, u112, u113, u114, u115, u116, u117, u118, u119, u120, u121, u122, u123, u124, u125, u126, u127, u128, u129, u130, u131, u132, zs3, hl, hji, hjz, hsw3, hs3, H⟩
         obtain rfl := hl.trans (rfl : _ = t100 (t30 (t3 [])))
         clear hl
         have hlen3 := hsw3.length
         refine c_seq ?_
         refine zq 133 ⟨rfl, rfl⟩ ?_
         refine zm ?_
         refine zm ?_
         refine s_val (r_lss rfl rfl) ?_
         refine zc (t100 (t30 (t3 []))) ?_
         refine c_if rfl (fun h103 => ?_) (fun h103 => ?_)
         ·refine wp_skip ?_
          refine x_thenNormal ?_
          refine c_seq ?_
          refine wp_block ?_
          refine c_seq ?_
          refine c_seq ?_
          refine d_begin (sz := 133) ⟨rfl, rfl⟩ (by kernel_rfl) H (H) rfl ?_
          intro w H
          refine zM 0 H ?_
          refine zM 1 H ?_
          refine zd 2 rfl (by kernel_rfl) (fun _ _ _ h => h) H (ziS qu25 qs28) rfl ?_
          refine zdh 3 rfl (by kernel_rfl) (fun _ _ _ h => h) H (fun HS => r_load1 qg28 rfl (HS.at 0 rfl) (u_get0 (i := j) (by omega) (by omega))) rfl ?_
          refine zM 4 H ?_
          refine zM 5 H ?_
          refine zd 6 rfl (by kernel_rfl) (fun _ _ _ h => h) H (r_sub rfl rfl (wr (r := ((j - 1 : Nat) : Int)))) rfl ?_
          refine zd 7 rfl (by kernel_rfl) (fun _ _ _ h => h) H (ziS qu25 qs28) rfl ?_
          refine zdh 8 rfl (by kernel_rfl) (fun _ _ _ h => h) H (fun HS => r_load1 qg28 rfl (HS.at 0 rfl) (u_get0 (i := j - 1) (by omega) (by omega))) rfl ?_
          refine zl1 9 ?_
          refine b_call rfl go_none (r_call qc96 (ec rfl (ec rfl en))) (less_spec _ _ _) rfl ?_
          rintro v w ⟨rfl, HC⟩
          replace H := H.quiet HC
          refine ⟨H, ?_⟩
          refine zd 10 rfl (by kernel_rfl) (fun _ _ _ h => h) H (r_notp rfl) rfl ?_
          refine zz (t100 (t30 (t3 []))) ?_
          refine x_thenNormal ?_
          refine c_if rfl (fun h116 => ?_) (fun h116 => ?_)
          ·refine wp_exit (x_thenExit (x_blockMiss (by decide) (x_thenExit (x_thenExit (x_blockHit ?_)))))
           refine x_blockNormal ?_
           refine x_thenNormal ?_
           refine c_region (n := 133) ⟨rfl, rfl⟩ ?_
           refine zm ?_
           refine zj ?_
           refine za ?_
           refine zb (t100 (t30 (t3 []))) ?_
           exact ⟨q + 1, _, rfl, ⟨_, _, _, _, _, _, _, _, _, _, _, _, _, _, _, _, _, _, _, _, _, _, _, _, _, _, _, _, _, _, _, _, _, _, _, _, _, _, _, _, _, _, _, _, _, _, _, _, _, _, _, _, _, _, _, _, _, _, _, _, _, _, _, _, _, _, _, _, _, _, _, _, _, _, _, _, _, _, _, _, _, _, _, _, _, _, _, _, _, _, _, _, _, _, _, _, _, _, _, _, _, _, _, _, _, _, _, _, _, _, _, _, _, _, _, _, _, _, _, _, _, _, _, _, zs3, rfl, by omega, hai, hiz, hsw3, hs3, H⟩, by omega⟩
          ·refine wp_skip ?_
           refine x_thenNormal ?_
           refine d_begin (sz := 133) ⟨rfl, rfl⟩ (by kernel_rfl) H (H.sub x0n) rfl ?_
           intro w H
           refine zM 0 (H.sub x0n) ?_
           refine zM 1 (H.sub x0n) ?_
           refine zM 2 (H.sub x0n) ?_
           refine zM 3 (H.sub x0n) ?_
           refine zd 4 rfl (by kernel_rfl) (fun _ _ _ h => h) (H.sub x0n) (r_sub rfl rfl (wr (r := ((j - 1 : Nat) : Int)))) rfl ?_
           refine zM 5 (H.sub x0n) ?_
           refine zM 6 (H.sub x0n) ?_
           refine zd 7 rfl (by kernel_rfl) (fun _ _ _ h => h) (H.sub x0n) (r_sub rfl rfl (wr (r := ((j - 1 : Nat) : Int)))) rfl ?_
           refine zd 8 rfl (by kernel_rfl) (fun _ _ _ h => h) (H.sub x0n) (ziS qu25 qs28) rfl ?_
           refine zM 10 (H.sub x0n) ?_
           refine zM 11 (H.sub x0n) ?_
           refine zd 12 rfl (by kernel_rfl) (fun _ _ _ h => h) (H.sub x0n) (ziS qu25 qs28) rfl ?_
           refine zl2 9 13 ?_ ?_
           ·refine b_val rfl go_none (r_load1 qg28 rfl (H.at 0 rfl) (u_get0 (i := j - 1) (by omega) (by omega))) rfl (H.sub x0n) ?_
            refine zl1 13 ?_
            refine b_val rfl go_none (r_load1 qg28 rfl (H.at 0 rfl) (u_get0 (i := j) (by omega) (by omega))) rfl (H.sub x0n) ?_
            refine zd 14 rfl (by kernel_rfl) (fun _ _ _ h => h) (H.sub x0n) (ziS qu25 qs28) rfl ?_
            refine zl1 15 ?_
            refine b_st rfl go_none (m_store1 H 0 qs28 rfl rfl rfl rfl (by rw [List.length_append, uC_length]; omega) (uC_setA0 _ sp (j) _ (by omega) (by omega))) (L' := [_]) rfl rfl (fun _ H => (H.sub x0n)) ?_
            intro w H
            refine zd 16 rfl (by kernel_rfl) (fun _ _ _ h => h) (H.sub x0n) (ziS qu25 qs28) rfl ?_
            refine zl1 17 ?_
            refine b_st rfl go_none (m_store1 H 0 qs28 rfl rfl rfl rfl (by rw [List.length_append, uC_length, List.length_set]; omega) (uC_setA0 _ sp (j - 1) _ (by rw [List.length_set]; omega) (by omega))) (L' := [_]) rfl rfl (fun _ H => (H.sub x0n)) ?_
            intro w H
            refine zz (t100 (t30 (t3 []))) ?_
            refine x_blockNormal ?_
            refine x_thenNormal ?_
            refine c_region (n := 133) ⟨rfl, rfl⟩ ?_
            refine zm ?_
            refine zj ?_
            refine za ?_
            refine zb (t100 (t30 (t3 []))) ?_
            exact ⟨j + 1, _, rfl, ⟨_, _, _, _, _, _, _, _, _, _, _, _, _, _, _, _, _, _, _, _, _, _, _, _, _, _, _, _, _, _, _, _, swp2 0 zs3 j (j - 1), rfl, by omega, by omega, (.step j (j - 1) hsw3 ⟨by omega, by omega⟩ ⟨by omega, by omega⟩ he), (hs3.off (by omega) (by omega) (by omega) (by omega)), H⟩, by omega⟩
           ·refine b_val rfl go_none (r_load1 qg28 rfl (H.at 0 rfl) (u_get0 (i := j) (by omega) (by omega))) rfl (H.sub x0n) ?_
            refine zl1 9 ?_
            refine b_val rfl go_none (r_load1 qg28 rfl (H.at 0 rfl) (u_get0 (i := j - 1) (by omega) (by omega))) rfl (H.sub x0n) ?_
            refine zd 14 rfl (by kernel_rfl) (fun _ _ _ h => h) (H.sub x0n) (ziS qu25 qs28) rfl ?_
            refine zl1 15 ?_
            refine b_st rfl go_none (m_store1 H 0 qs28 rfl rfl rfl rfl (by rw [List.length_append, uC_length]; omega) (uC_setA0 _ sp (j) _ (by omega) (by omega))) (L' := [_]) rfl rfl (fun _ H => (H.sub x0n)) ?_
            intro w H
            refine zd 16 rfl (by kernel_rfl) (fun _ _ _ h => h) (H.sub x0n) (ziS qu25 qs28) rfl ?_
            refine zl1 17 ?_
            refine b_st rfl go_none (m_store1 H 0 qs28 rfl rfl rfl rfl (by rw [List.length_append, uC_length, List.length_set]; omega) (uC_setA0 _ sp (j - 1) _ (by rw [List.length_set]; omega) (by omega))) (L' := [_]) rfl rfl (fun _ H => (H.sub x0n)) ?_
            intro w H
            refine zz (t100 (t30 (t3 []))) ?_
            refine x_blockNormal ?_
            refine x_thenNormal ?_
            refine c_region (n := 133) ⟨rfl, rfl⟩ ?_
            refine zm ?_
            refine zj ?_
            refine za ?_
            refine zb (t100 (t30 (t3 []))) ?_
            exact ⟨j + 1, _, rfl, ⟨_, _, _, _, _, _, _, _, _, _, _, _, _, _, _, _, _, _, _, _, _, _, _, _, _, _, _, _, _, _, _, _, swp2 0 zs3 j (j - 1), rfl, by omega, by omega, (.step j (j - 1) hsw3 ⟨by omega, by omega⟩ ⟨by omega, by omega⟩ he), (hs3.off (by omega) (by omega) (by omega) (by omega)), H⟩, by omega⟩
         ·refine wp_exit (x_thenExit (x_thenExit (x_blockHit ?_)))
          refine x_blockNormal ?_
          refine x_thenNormal ?_
          refine c_region (n := 133) ⟨rfl, rfl⟩ ?_
          refine zm ?_
          refine zj ?_
          refine za ?_
          refine zb (t100 (t30 (t3 []))) ?_
          exact ⟨q + 1, _, rfl, ⟨_, _, _, _, _, _, _, _, _, _, _, _, _, _, _, _, _, _, _, _, _, _, _, _, _, _, _, _, _, _, _, _, _, _, _, _, _, _, _, _, _, _, _, _, _, _, _, _, _, _, _, _, _, _, _, _, _, _, _, _, _, _, _, _, _, _, _, _, _, _, _, _, _, _, _, _, _, _, _, _, _, _, _, _, _, _, _, _, _, _, _, _, _, _, _, _, _, _, _, _, _, _, _, _, _, _, _, _, _, _, _, _, _, _, _, _, _, _, _, _, _, _, _, _, zs3, rfl, by omega, hai, hiz, hsw3, hs3, H⟩, by omega⟩
        ·refine wp_skip ?_
         refine x_blockNormal ?_
         refine x_thenNormal ?_
         refine c_region (n := 133) ⟨rfl, rfl⟩ ?_
         refine zm ?_
         refine zj ?_
         refine za ?_
         refine zb (t100 (t30 (t3 []))) ?_
         exact ⟨q + 1, _, rfl, ⟨_, _, _, _, _, _, _, _, _, _, _, _, _, _, _, _, _, _, _, _, _, _, _, _, _, _, _, _, _, _, _, _, _, _, _, _, _, _, _, _, _, _, _, _, _, _, _, _, _, _, _, _, _, _, _, _, _, _, _, _, _, _, _, _, _, _, _, _, _, _, _, _, _, _, _, _, _, _, _, _, _, _, _, _, _, _, _, _, _, _, _, _, _, _, _, _, _, _, _, _, _, _, _, _, _, _, _, _, _, _, _, _, _, _, _, _, _, _, _, _, _, _, _, _, zs2, rfl, by omega, hai, hiz, hsw2, hs2, H⟩, by omega⟩
      ·refine b_val rfl go_none (r_load1 qg28 rfl (H.at 0 rfl) (u_get0 (i := i) (by omega) (by omega))) rfl (H.sub x0n) ?_
       refine zl1 9 ?_
       refine b_val rfl go_none (r_load1 qg28 rfl (H.at 0 rfl) (u_get0 (i := i - 1) (by omega) (by omega))) rfl (H.sub x0n) ?_
       refine zd 14 rfl (by kernel_rfl) (fun _ _ _ h => h) (H.sub x0n) (ziS qu25 qs28) rfl ?_
       refine zl1 15 ?_
       refine b_st rfl go_none (m_store1 H 0 qs28 rfl rfl rfl rfl (by rw [List.length_append, uC_length]; omega) (uC_setA0 _ sp (i) _ (by omega) (by omega))) (L' := [_]) rfl rfl (fun _ H => (H.sub x0n)) ?_
       intro w H
       refine zd 16 rfl (by kernel_rfl) (fun _ _ _ h => h) (H.sub x0n) (ziS qu25 qs28) rfl ?_
       refine zl1 17 ?_
       refine b_st rfl go_none (m_store1 H 0 qs28 rfl rfl rfl rfl (by rw [List.length_append, uC_length, List.length_set]; omega) (uC_setA0 _ sp (i - 1) _ (by rw [List.length_set]; omega) (by omega))) (L' := [_]) rfl rfl (fun _ H => (H.sub x0n)) ?_
       intro w H
       refine zz (t100 (t30 (t3 []))) ?_
       refine x_thenNormal ?_
       refine c_cut (fun (l0 : List Value) (l : List Value) (w : World) => ∃ (u9 u58 u59 u60 u61 u62 u63 u64 u65 u66 u67 u68 u69 u70 u71 u72 u73 u74 u75 u76 u77 u78 u79 u80 u81 u82 u83 u84 u85 u86 u87 u88 u89 u90 u91 u92 u93 u94 : Value) (zs2 : List Int), l = ovr l0 [N_, N_, N_, N_, N_, N_, N_, N_, N_, Y_ u9, N_, N_, N_, N_, N_, N_, N_, N_, N_, N_, N_, N_, N_, N_, N_, N_, N_, N_, N_, N_, N_, N_, N_, N_, N_, N_, N_, N_, N_, N_, N_, N_, N_, N_, N_, N_, N_, N_, N_, N_, N_, N_, N_, N_, N_, N_, N_, N_, Y_ u58, Y_ u59, Y_ u60, Y_ u61, Y_ u62, Y_ u63, Y_ u64, Y_ u65, Y_ u66, Y_ u67, Y_ u68, Y_ u69, Y_ u70, Y_ u71, Y_ u72, Y_ u73, Y_ u74, Y_ u75, Y_ u76, Y_ u77, Y_ u78, Y_ u79, Y_ u80, Y_ u81, Y_ u82, Y_ u83, Y_ u84, Y_ u85, Y_ u86, Y_ u87, Y_ u88, Y_ u89, Y_ u90, Y_ u91, Y_ u92, Y_ u93, Y_ u94] ∧ Sw 0 a z ys zs2 ∧ Srt 0 id a i zs2 ∧ St w0 [b] w [(b, .cells (uC zs2 ++ sp).toArray 28 (0, 0))]) ?_ ?_
       ·refine zq 133 ⟨rfl, rfl⟩ ?_
        have hsw1 : Sw 0 a z ys (swp2 0 zs i (i - 1)) := .step i (i - 1) hsw ⟨by omega, by omega⟩ ⟨by omega, by omega⟩ he
        have hin1 := hs.pair (by omega) (by omega) (Decidable.not_not.1 h32)
        have hlen1 := hsw1.length
        refine zm ?_
        refine zm ?_
        refine s_val (r_sub rfl rfl (wr (r := ((i - a : Nat) : Int)))) ?_
        refine s_val (r_geq rfl rfl) ?_
        refine zc (t100 (t30 (t3 []))) ?_
        refine c_if rfl (fun h61 => ?_) (fun h61 => ?_)
        ·refine zq 133 ⟨rfl, rfl⟩ ?_
         refine zm ?_
         refine s_val (r_sub rfl rfl (wr (r := ((i - 1 : Nat) : Int)))) ?_
         refine za ?_
         refine zc (t100 (t30 (t3 []))) ?_
         refine wp_block ?_
         refine c_loop (fun (l0 : List Value) (j : Nat) (l : List Value) (w : World) => ∃ (u64 u65 u66 u67 u68 u69 u70 u71 u72 u73 u74 u75 u76 u77 u78 u79 u80 u81 u82 u83 u84 u85 u86 u87 u88 u89 u90 u91 u92 u93 u94 : Value) (zs2 : List Int), l = ovr l0 [N_, N_, N_, N_, N_, N_, N_, N_, N_, Y_ (.int .i64 (j : Nat)), N_, N_, N_, N_, N_, N_, N_, N_, N_, N_, N_, N_, N_, N_, N_, N_, N_, N_, N_, N_, N_, N_, N_, N_, N_, N_, N_, N_, N_, N_, N_, N_, N_, N_, N_, N_, N_, N_, N_, N_, N_, N_, N_, N_, N_, N_, N_, N_, N_, N_, N_, N_, N_, N_, Y_ u64, Y_ u65, Y_ u66, Y_ u67, Y_ u68, Y_ u69, Y_ u70, Y_ u71, Y_ u72, Y_ u73, Y_ u74, Y_ u75, Y_ u76, Y_ u77, Y_ u78, Y_ u79, Y_ u80, Y_ u81, Y_ u82, Y_ u83, Y_ u84, Y_ u85, Y_ u86, Y_ u87, Y_ u88, Y_ u89, Y_ u90, Y_ u91, Y_ u92, Y_ u93, Y_ u94] ∧ a ≤ j ∧ j ≤ i - 1 ∧ Sw 0 a z ys zs2 ∧ Ins 0 id a i j zs2 ∧ St w0 [b] w [(b, .cells (uC zs2 ++ sp).toArray 28 (0, 0))]) (fun (j : Nat) => j) (i - 1) ⟨_, _, _, _, _, _, _, _, _, _, _, _, _, _, _, _, _, _, _, _, _, _, _, _, _, _, _, _, _, _, _, _, rfl, by omega, by omega, hsw1, hin1, H⟩ ?_
         intro j l w ⟨u64, u65, u66, u67, u68, u69, u70, u71, u72, u73, u74, u75, u76, u77, u78, u79, u80, u81, u82, u83, u84, u85, u86, u87, u88, u89, u90, u91, u92, u93, u94, zs2, hl, hja, hji, hsw2, hin, H⟩
         obtain rfl := hl.trans (rfl : _ = t100 (t30 (t3 [])))
         clear hl
         have hlen2 := hsw2.length
         refine c_seq ?_
         refine zq 133 ⟨rfl, rfl⟩ ?_
         refine zm ?_
         refine s_val (r_geq rfl rfl) ?_
         refine zc (t100 (t30 (t3 []))) ?_
         refine c_if rfl (fun h65 => ?_) (fun h65 => ?_)
         ·refine wp_skip ?_
          refine x_thenNormal ?_
          refine c_seq ?_
          refine wp_block ?_
          refine c_seq ?_
          refine c_seq ?_
          refine d_begin (sz := 133) ⟨rfl, rfl⟩ (by kernel_rfl) H (H) rfl ?_
          intro w H
          refine zM 0 H ?_
          refine zM 1 H ?_
          refine zd 2 rfl (by kernel_rfl) (fun _ _ _ h => h) H (ziS qu25 qs28) rfl ?_
          refine zdh 3 rfl (by kernel_rfl) (fun _ _ _ h => h) H (fun HS => r_load1 qg28 rfl (HS.at 0 rfl) (u_get0 (i := j) (by omega) (by omega))) rfl ?_
          refine zM 4 H ?_
          refine zM 5 H ?_
          refine zd 6 rfl (by kernel_rfl) (fun _ _ _ h => h) H (r_sub rfl rfl (wr (r := ((j - 1 : Nat) : Int)))) rfl ?_
          refine zd 7 rfl (by kernel_rfl) (fun _ _ _ h => h) H (ziS qu25 qs28) rfl ?_
          refine zdh 8 rfl (by kernel_rfl) (fun _ _ _ h => h) H (fun HS => r_load1 qg28 rfl (HS.at 0 rfl) (u_get0 (i := j - 1) (by omega) (by omega))) rfl ?_
          refine zl1 9 ?_
          refine b_call rfl go_none (r_call qc96 (ec rfl (ec rfl en))) (less_spec _ _ _) rfl ?_
          rintro v w ⟨rfl, HC⟩
          replace H := H.quiet HC
          refine ⟨H, ?_⟩
          refine zd 10 rfl (by kernel_rfl) (fun _ _ _ h => h) H (r_notp rfl) rfl ?_
          refine zz (t100 (t30 (t3 []))) ?_
          refine x_thenNormal ?_
          refine c_if rfl (fun h78 => ?_) (fun h78 => ?_)
          ·have hcm84 := h78
           refine wp_exit (x_thenExit (x_blockMiss (by decide) (x_thenExit (x_thenExit (x_blockHit ?_)))))
           exact ⟨_, rfl, ⟨_, _, _, _, _, _, _, _, _, _, _, _, _, _, _, _, _, _, _, _, _, _, _, _, _, _, _, _, _, _, _, _, _, _, _, _, _, _, _, rfl, hsw2, ((hin.fin (by omega) (fun _ => hcm84)).cut (by omega)), H⟩⟩
          ·have hcm84 : kk 0 id zs2 j < kk 0 id zs2 (j - 1) := Decidable.not_not.1 h78
           have hja2 : a < j := by
            refine (Nat.lt_or_eq_of_le hja).resolve_right fun e => ?_
            subst e
            have := (hah.sw hsw2) (by omega) a (Nat.le_refl _) (by omega)
            omega
           refine wp_skip ?_
           refine x_thenNormal ?_
           refine d_begin (sz := 133) ⟨rfl, rfl⟩ (by kernel_rfl) H (H.sub x0n) rfl ?_
           intro w H
           refine zM 0 (H.sub x0n) ?_
           refine zM 1 (H.sub x0n) ?_
           refine zM 2 (H.sub x0n) ?_
           refine zM 3 (H.sub x0n) ?_
           refine zd 4 rfl (by kernel_rfl) (fun _ _ _ h => h) (H.sub x0n) (r_sub rfl rfl (wr (r := ((j - 1 : Nat) : Int)))) rfl ?_
           refine zM 5 (H.sub x0n) ?_
           refine zM 6 (H.sub x0n) ?_
           refine zd 7 rfl (by kernel_rfl) (fun _ _ _ h => h) (H.sub x0n) (r_sub rfl rfl (wr (r := ((j - 1 : Nat) : Int)))) rfl ?_
           refine zd 8 rfl (by kernel_rfl) (fun _ _ _ h => h) (H.sub x0n) (ziS qu25 qs28) rfl ?_
           refine zM 10 (H.sub x0n) ?_
           refine zM 11 (H.sub x0n) ?_
           refine zd 12 rfl (by kernel_rfl) (fun _ _ _ h => h) (H.sub x0n) (ziS qu25 qs28) rfl ?_
           refine zl2 9 13 ?_ ?_
           ·refine b_val rfl go_none (r_load1 qg28 rfl (H.at 0 rfl) (u_get0 (i := j - 1) (by omega) (by omega))) rfl (H.sub x0n) ?_
            refine zl1 13 ?_
            refine b_val rfl go_none (r_load1 qg28 rfl (H.at 0 rfl) (u_get0 (i := j) (by omega) (by omega))) rfl (H.sub x0n) ?_
            refine zd 14 rfl (by kernel_rfl) (fun _ _ _ h => h) (H.sub x0n) (ziS qu25 qs28) rfl ?_
            refine zl1 15 ?_
            refine b_st rfl go_none (m_store1 H 0 qs28 rfl rfl rfl rfl (by rw [List.length_append, uC_length]; omega) (uC_setA0 _ sp (j) _ (by omega) (by omega))) (L' := [_]) rfl rfl (fun _ H => (H.sub x0n)) ?_
            intro w H
            refine zd 16 rfl (by kernel_rfl) (fun _ _ _ h => h) (H.sub x0n) (ziS qu25 qs28) rfl ?_
            refine zl1 17 ?_
            refine b_st rfl go_none (m_store1 H 0 qs28 rfl rfl rfl rfl (by rw [List.length_append, uC_length, List.length_set]; omega) (uC_setA0 _ sp (j - 1) _ (by rw [List.length_set]; omega) (by omega))) (L' := [_]) rfl rfl (fun _ H => (H.sub x0n)) ?_
            intro w H
            refine zz (t100 (t30 (t3 []))) ?_
            refine x_blockNormal ?_
            refine x_thenNormal ?_
            refine c_region (n := 133) ⟨rfl, rfl⟩ ?_
            refine zm ?_
            refine s_val (r_sub rfl rfl (wr (r := ((j - 1 : Nat) : Int)))) ?_
            refine za ?_
            refine zb (t100 (t30 (t3 []))) ?_
            exact ⟨j - 1, _, rfl, ⟨_, _, _, _, _, _, _, _, _, _, _, _, _, _, _, _, _, _, _, _, _, _, _, _, _, _, _, _, _, _, _, swp2 0 zs2 j (j - 1), rfl, by omega, by omega, (.step j (j - 1) hsw2 ⟨by omega, by omega⟩ ⟨by omega, by omega⟩ he), (hin.step (by omega) (by omega) (by omega) hcm84), H⟩, by omega⟩
           ·refine b_val rfl go_none (r_load1 qg28 rfl (H.at 0 rfl) (u_get0 (i := j) (by omega) (by omega))) rfl (H.sub x0n) ?_
            refine zl1 9 ?_
            refine b_val rfl go_none (r_load1 qg28 rfl (H.at 0 rfl) (u_get0 (i := j - 1) (by omega) (by omega))) rfl (H.sub x0n) ?_
            refine zd 14 rfl (by kernel_rfl) (fun _ _ _ h => h) (H.sub x0n) (ziS qu25 qs28) rfl ?_
            refine zl1 15 ?_
            refine b_st rfl go_none (m_store1 H 0 qs28 rfl rfl rfl rfl (by rw [List.length_append, uC_length]; omega) (uC_setA0 _ sp (j) _ (by omega) (by omega))) (L' := [_]) rfl rfl (fun _ H => (H.sub x0n)) ?_
            intro w H
            refine zd 16 rfl (by kernel_rfl) (fun _ _ _ h => h) (H.sub x0n) (ziS qu25 qs28) rfl ?_
            refine zl1 17 ?_
            refine b_st rfl go_none (m_store1 H 0 qs28 rfl rfl rfl rfl (by rw [List.length_append, uC_length, List.length_set]; omega) (uC_setA0 _ sp (j - 1) _ (by rw [List.length_set]; omega) (by omega))) (L' := [_]) rfl rfl (fun _ H => (H.sub x0n)) ?_
            intro w H
            refine zz (t100 (t30 (t3 []))) ?_
            refine x_blockNormal ?_
            refine x_thenNormal ?_
            refine c_region (n := 133) ⟨rfl, rfl⟩ ?_
            refine zm ?_
            refine s_val (r_sub rfl rfl (wr (r := ((j - 1 : Nat) : Int)))) ?_
            refine za ?_
            refine zb (t100 (t30 (t3 []))) ?_
            exact ⟨j - 1, _, rfl, ⟨_, _, _, _, _, _, _, _, _, _, _, _, _, _, _, _, _, _, _, _, _, _, _, _, _, _, _, _, _, _, _, swp2 0 zs2 j (j - 1), rfl, by omega, by omega, (.step j (j - 1) hsw2 ⟨by omega, by omega⟩ ⟨by omega, by omega⟩ he), (hin.step (by omega) (by omega) (by omega) hcm84), H⟩, by omega⟩
         ·refine wp_exit (x_thenExit (x_thenExit (x_blockHit ?_)))
          exact ⟨_, rfl, ⟨_, _, _, _, _, _, _, _, _, _, _, _, _, _, _, _, _, _, _, _, _, _, _, _, _, _, _, _, _, _, _, _, _, _, _, _, _, _, _, rfl, hsw2, ((hin.fin (by omega) (fun h => by omega)).cut (by omega)), H⟩⟩
        ·refine wp_skip ?_
         exact ⟨_, rfl, ⟨_, _, _, _, _, _, _, _, _, _, _, _, _, _, _, _, _, _, _, _, _, _, _, _, _, _, _, _, _, _, _, _, _, _, _, _, _, _, _, rfl, hsw1, ((hin1.fin (by omega) (fun h => by omega)).cut (by omega)), H⟩⟩
       ·rintro l w ⟨u9, u58, u59, u60, u61, u62, u63, u64, u65, u66, u67, u68, u69, u70, u71, u72, u73, u74, u75, u76, u77, u78, u79, u80, u81, u82, u83, u84, u85, u86, u87, u88, u89, u90, u91, u92, u93, u94, zs2, hl, hsw2, hs2, H⟩
        obtain rfl := hl.trans (rfl : _ = t100 (t30 (t3 [])))
        clear hl
        have hlen2 := hsw2.length
        refine zq 133 ⟨rfl, rfl⟩ ?_
        refine zm ?_
        refine zm ?_
        refine s_val (r_sub rfl rfl (wr (r := ((z - i : Nat) : Int)))) ?_
        refine s_val (r_geq rfl rfl) ?_
        refine zc (t100 (t30 (t3 []))) ?_
        refine c_if rfl (fun h98 => ?_) (fun h98 => ?_)
        ·refine zq 133 ⟨rfl, rfl⟩ ?_
         refine zm ?_
         refine s_val (r_add rfl rfl (wr (r := ((i + 1 : Nat) : Int)))) ?_
         refine za ?_
         refine zc (t100 (t30 (t3 []))) ?_
         refine wp_block ?_
         refine c_loop (fun (l0 : List Value) (j : Nat) (l : List Value) (w : World) => ∃ (u101 u102 u103 u104 u105 u106 u107 u108 u109 u110 u111 u112 u113 u114 u115 u116 u117 u118 u119 u120 u121 u122 u123 u124 u125 u126 u127 u128 u129 u130 u131 u132 : Value) (zs3 : List Int), l = ovr l0 [N_, N_, N_, N_, N_, N_, N_, N_, N_, N_, Y_ (.int .i64 (j : Nat)), N_, N_, N_, N_, N_, N_, N_, N_, N_, N_, N_, N_, N_, N_, N_, N_, N_, N_, N_, N_, N_, N_, N_, N_, N_, N_, N_, N_, N_, N_, N_, N_, N_, N_, N_, N_, N_, N_, N_, N_, N_, N_, N_, N_, N_, N_, N_, N_, N_, N_, N_, N_, N_, N_, N_, N_, N_, N_, N_, N_, N_, N_, N_, N_, N_, N_, N_, N_, N_, N_, N_, N_, N_, N_, N_, N_, N_, N_, N_, N_, N_, N_, N_, N_, N_, N_, N_, N_, N_, N_, Y_ u101, Y_ u102, Y_ u103, Y_ u104, Y_ u105, Y_ u106, Y_ u107, Y_ u108, Y_ u109, Y_ u110, Y_ u111, Y_ u112, Y_ u113, Y_ u114, Y_ u115, Y_ u116, Y_ u117, Y_ u118, Y_ u119, Y_ u120, Y_ u121, Y_ u122, Y_ u123, Y_ u124, Y_ u125, Y_ u126, Y_ u127, Y_ u128, Y_ u129, Y_ u130, Y_ u131, Y_ u132] ∧ i + 1 ≤ j ∧ j ≤ z ∧ Sw 0 a z ys zs3 ∧ Srt 0 id a i zs3 ∧ St w0 [b] w [(b, .cells (uC zs3 ++ sp).toArray 28 (0, 0))]) (fun (j : Nat) => z - j) (i + 1) ⟨_, _, _, _, _, _, _, _, _, _, _, _, _, _, _, _, _, _, _, _, _, _, _, _, _, _, _, _, _, _, _, _, _, rfl, by omega, by omega, hsw2, hs2, H⟩ ?_
         intro j l w ⟨u101, u102, u103, u104, u105, u106, u107, u108, u109, u110, u111, u112, u113, u114, u115, u116, u117, u118, u119, u120, u121, u122, u123, u124, u125, u126, u127, u128, u129, u130, u131, u132, zs3, hl, hji, hjz, hsw3, hs3, H⟩
         obtain rfl := hl.trans (rfl : _ = t100 (t30 (t3 [])))
         clear hl
         have hlen3 := hsw3.length
         refine c_seq ?_
         refine zq 133 ⟨rfl, rfl⟩ ?_
         refine zm ?_
         refine zm ?_
         refine s_val (r_lss rfl rfl) ?_
         refine zc (t100 (t30 (t3 []))) ?_
         refine c_if rfl (fun h103 => ?_) (fun h103 => ?_)
         ·refine wp_skip ?_
          refine x_thenNormal ?_
          refine c_seq ?_
          refine wp_block ?_
          refine c_seq ?_
          refine c_seq ?_
          refine d_begin (sz := 133) ⟨rfl, rfl⟩ (by kernel_rfl) H (H) rfl ?_
          intro w H
          refine zM 0 H ?_
          refine zM 1 H ?_
          refine zd 2 rfl (by kernel_rfl) (fun _ _ _ h => h) H (ziS qu25 qs28) rfl ?_
          refine zdh 3 rfl (by kernel_rfl) (fun _ _ _ h => h) H (fun HS => r_load1 qg28 rfl (HS.at 0 rfl) (u_get0 (i := j) (by omega) (by omega))) rfl ?_
          refine zM 4 H ?_
          refine zM 5 H ?_
          refine zd 6 rfl (by kernel_rfl) (fun _ _ _ h => h) H (r_sub rfl rfl (wr (r := ((j - 1 : Nat) : Int)))) rfl ?_
          refine zd 7 rfl (by kernel_rfl) (fun _ _ _ h => h) H (ziS qu25 qs28) rfl ?_
          refine zdh 8 rfl (by kernel_rfl) (fun _ _ _ h => h) H (fun HS => r_load1 qg28 rfl (HS.at 0 rfl) (u_get0 (i := j - 1) (by omega) (by omega))) rfl ?_
          refine zl1 9 ?_
          refine b_call rfl go_none (r_call qc96 (ec rfl (ec rfl en))) (less_spec _ _ _) rfl ?_
          rintro v w ⟨rfl, HC⟩
          replace H := H.quiet HC
          refine ⟨H, ?_⟩
          refine zd 10 rfl (by kernel_rfl) (fun _ _ _ h => h) H (r_notp rfl) rfl ?_
          refine zz (t100 (t30 (t3 []))) ?_
          refine x_thenNormal ?_
          refine c_if rfl (fun h116 => ?_) (fun h116 => ?_)
          ·refine wp_exit (x_thenExit (x_blockMiss (by decide) (x_thenExit (x_thenExit (x_blockHit ?_)))))
           refine x_blockNormal ?_
           refine x_thenNormal ?_
           refine c_region (n := 133) ⟨rfl, rfl⟩ ?_
           refine zm ?_
           refine zj ?_
           refine za ?_
           refine zb (t100 (t30 (t3 []))) ?_
           exact ⟨q + 1, _, rfl, ⟨_, _, _, _, _, _, _, _, _, _, _, _, _, _, _, _, _, _, _, _, _, _, _, _, _, _, _, _, _, _, _, _, _, _, _, _, _, _, _, _, _, _, _, _, _, _, _, _, _, _, _, _, _, _, _, _, _, _, _, _, _, _, _, _, _, _, _, _, _, _, _, _, _, _, _, _, _, _, _, _, _, _, _, _, _, _, _, _, _, _, _, _, _, _, _, _, _, _, _, _, _, _, _, _, _, _, _, _, _, _, _, _, _, _, _, _, _, _, _, _, _, _, _, _, zs3, rfl, by omega, hai, hiz, hsw3, hs3, H⟩, by omega⟩
          ·refine wp_skip ?_
           refine x_thenNormal ?_
           refine d_begin (sz := 133) ⟨rfl, rfl⟩ (by kernel_rfl) H (H.sub x0n) rfl ?_
           intro w H
           refine zM 0 (H.sub x0n) ?_
           refine zM 1 (H.sub x0n) ?_
           refine zM 2 (H.sub x0n) ?_
           refine zM 3 (H.sub x0n) ?_
           refine zd 4 rfl (by kernel_rfl) (fun _ _ _ h => h) (H.sub x0n) (r_sub rfl rfl (wr (r := ((j - 1 : Nat) : Int)))) rfl ?_
           refine zM 5 (H.sub x0n) ?_
           refine zM 6 (H.sub x0n) ?_
           refine zd 7 rfl (by kernel_rfl) (fun _ _ _ h => h) (H.sub x0n) (r_sub rfl rfl (wr (r := ((j - 1 : Nat) : Int)))) rfl ?_
           refine zd 8 rfl (by kernel_rfl) (fun _ _ _ h => h) (H.sub x0n) (ziS qu25 qs28) rfl ?_
           refine zM 10 (H.sub x0n) ?_
           refine zM 11 (H.sub x0n) ?_
           refine zd 12 rfl (by kernel_rfl) (fun _ _ _ h => h) (H.sub x0n) (ziS qu25 qs28) rfl ?_
           refine zl2 9 13 ?_ ?_
           ·refine b_val rfl go_none (r_load1 qg28 rfl (H.at 0 rfl) (u_get0 (i := j - 1) (by omega) (by omega))) rfl (H.sub x0n) ?_
            refine zl1 13 ?_
            refine b_val rfl go_none (r_load1 qg28 rfl (H.at 0 rfl) (u_get0 (i := j) (by omega) (by omega))) rfl (H.sub x0n) ?_
            refine zd 14 rfl (by kernel_rfl) (fun _ _ _ h => h) (H.sub x0n) (ziS qu25 qs28) rfl ?_
            refine zl1 15 ?_
            refine b_st rfl go_none (m_store1 H 0 qs28 rfl rfl rfl rfl (by rw [List.length_append, uC_length]; omega) (uC_setA0 _ sp (j) _ (by omega) (by omega))) (L' := [_]) rfl rfl (fun _ H => (H.sub x0n)) ?_
            intro w H
            refine zd 16 rfl (by kernel_rfl) (fun _ _ _ h => h) (H.sub x0n) (ziS qu25 qs28) rfl ?_
            refine zl1 17 ?_
            refine b_st rfl go_none (m_store1 H 0 qs28 rfl rfl rfl rfl (by rw [List.length_append, uC_length, List.length_set]; omega) (uC_setA0 _ sp (j - 1) _ (by rw [List.length_set]; omega) (by omega))) (L' := [_]) rfl rfl (fun _ H => (H.sub x0n)) ?_
            intro w H
            refine zz (t100 (t30 (t3 []))) ?_
            refine x_blockNormal ?_
            refine x_thenNormal ?_
            refine c_region (n := 133) ⟨rfl, rfl⟩ ?_
            refine zm ?_
            refine zj ?_
            refine za ?_
            refine zb (t100 (t30 (t3 []))) ?_
            exact ⟨j + 1, _, rfl, ⟨_, _, _, _, _, _, _, _, _, _, _, _, _, _, _, _, _, _, _, _, _, _, _, _, _, _, _, _, _, _, _, _, swp2 0 zs3 j (j - 1), rfl, by omega, by omega, (.step j (j - 1) hsw3 ⟨by omega, by omega⟩ ⟨by omega, by omega⟩ he), (hs3.off (by omega) (by omega) (by omega) (by omega)), H⟩, by omega⟩
           ·refine b_val rfl go_none (r_load1 qg28 rfl (H.at 0 rfl) (u_get0 (i := j) (by omega) (by omega))) rfl (H.sub x0n) ?_
            refine zl1 9 ?_
            refine b_val rfl go_none (r_load1 qg28 rfl (H.at 0 rfl) (u_get0 (i := j - 1) (by omega) (by omega))) rfl (H.sub x0n) ?_
            refine zd 14 rfl (by kernel_rfl) (fun _ _ _ h => h) (H.sub x0n) (ziS qu25 qs28) rfl ?_
            refine zl1 15 ?_
            refine b_st rfl go_none (m_store1 H 0 qs28 rfl rfl rfl rfl (by rw [List.length_append, uC_length]; omega) (uC_setA0 _ sp (j) _ (by omega) (by omega))) (L' := [_]) rfl rfl (fun _ H => (H.sub x0n)) ?_
            intro w H
            refine zd 16 rfl (by kernel_rfl) (fun _ _ _ h => h) (H.sub x0n) (ziS qu25 qs28) rfl ?_
            refine zl1 17 ?_
            refine b_st rfl go_none (m_store1 H 0 qs28 rfl rfl rfl rfl (by rw [List.length_append, uC_length, List.length_set]; omega) (uC_setA0 _ sp (j - 1) _ (by rw [List.length_set]; omega) (by omega))) (L' := [_]) rfl rfl (fun _ H => (H.sub x0n)) ?_
            intro w H
            refine zz (t100 (t30 (t3 []))) ?_
            refine x_blockNormal ?_
            refine x_thenNormal ?_
            refine c_region (n := 133) ⟨rfl, rfl⟩ ?_
            refine zm ?_
            refine zj ?_
            refine za ?_
            refine zb (t100 (t30 (t3 []))) ?_
            exact ⟨j + 1, _, rfl, ⟨_, _, _, _, _, _, _, _, _, _, _, _, _, _, _, _, _, _, _, _, _, _, _, _, _, _, _, _, _, _, _, _, swp2 0 zs3 j (j - 1), rfl, by omega, by omega, (.step j (j - 1) hsw3 ⟨by omega, by omega⟩ ⟨by omega, by omega⟩ he), (hs3.off (by omega) (by omega) (by omega) (by omega)), H⟩, by omega⟩
         ·refine wp_exit (x_thenExit (x_thenExit (x_blockHit ?_)))
          refine x_blockNormal ?_
          refine x_thenNormal ?_
          refine c_region (n := 133) ⟨rfl, rfl⟩ ?_
          refine zm ?_
          refine zj ?_
          refine za ?_
          refine zb (t100 (t30 (t3 []))) ?_
          exact ⟨q + 1, _, rfl, ⟨_, _, _, _, _, _, _, _, _, _, _, _, _, _, _, _, _, _, _, _, _, _, _, _, _, _, _, _, _, _, _, _, _, _, _, _, _, _, _, _, _, _, _, _, _, _, _, _, _, _, _, _, _, _, _, _, _, _, _, _, _, _, _, _, _, _, _, _, _, _, _, _, _, _, _, _, _, _, _, _, _, _, _, _, _, _, _, _, _, _, _, _, _, _, _, _, _, _, _, _, _, _, _, _, _, _, _, _, _, _, _, _, _, _, _, _, _, _, _, _, _, _, _, _, zs3, rfl, by omega, hai, hiz, hsw3, hs3, H⟩, by omega⟩
        ·refine wp_skip ?_
         refine x_blockNormal ?_
         refine x_thenNormal ?_
         refine c_region (n := 133) ⟨rfl, rfl⟩ ?_
         refine zm ?_
         refine zj ?_
         refine za ?_
         refine zb (t100 (t30 (t3 []))) ?_
         exact ⟨q + 1, _, rfl, ⟨_, _, _, _, _, _, _, _, _, _, _, _, _, _, _, _, _, _, _, _, _, _, _, _, _, _, _, _, _, _, _, _, _, _, _, _, _, _, _, _, _, _, _, _, _, _, _, _, _, _, _, _, _, _, _, _, _, _, _, _, _, _, _, _, _, _, _, _, _, _, _, _, _, _, _, _, _, _, _, _, _, _, _, _, _, _, _, _, _, _, _, _, _, _, _, _, _, _, _, _, _, _, _, _, _, _, _, _, _, _, _, _, _, _, _, _, _, _, _, _, _, _, _, _, zs2, rfl, by omega, hai, hiz, hsw2, hs2, H⟩, by omega⟩
  ·refine zM 3 H ?_
   refine zN 4 H ?_
   refine zN 5 H ?_
   refine zN 6 H ?_
   refine zN 7 H ?_
   refine zN 8 H ?_
   refine zN 9 H ?_
   refine zN 10 H ?_
   refine zN 11 H ?_
   refine zN 12 H ?_
   refine zN 13 H ?_
   refine zN 14 H ?_
   refine zd 15 rfl (by kernel_rfl) (fun _ _ _ h => h) H (r_pickf rfl rfl) rfl ?_
   refine zz (t100 (t30 (t3 []))) ?_
   refine x_thenNormal ?_
   refine c_iff rfl ?_
   refine wp_exit (x_thenExit (x_thenExit (x_blockHit ?_)))
   refine x_thenNormal ?_
   refine c_seq ?_
   refine zq 133 ⟨rfl, rfl⟩ ?_
   refine zm ?_
   refine zm ?_
   refine s_val (r_eql rfl rfl) ?_
   refine zc (t100 (t30 (t3 []))) ?_
   refine c_if rfl (fun h37 => ?_) (fun h37 => ?_)
   ·obtain rfl : i = z := by omega
    refine zq 133 ⟨rfl, rfl⟩ ?_
    refine za ?_
    refine zc (t100 (t30 (t3 []))) ?_
    refine wp_ret (x_thenRet (x_blockRet (x_thenRet (x_thenRet (x_blockRet (x_thenRet ?_))))))
    refine zw (res1 rfl rfl) ?_
    exact ⟨true, zs, rfl, hsw, fun _ => hs, H⟩
   ·exfalso; omega
 ·refine wp_exit (x_thenExit (x_thenExit (x_blockHit ?_)))
  refine x_thenNormal ?_
  refine zq 133 ⟨rfl, rfl⟩ ?_
  refine za ?_
  refine zc (t100 (t30 (t3 []))) ?_
  refine wp_ret ?_
  refine zw (res1 rfl rfl) ?_
  exact ⟨false, zs, rfl, hsw, (fun h => nomatch h), H⟩

end Go.Proofs.Ytobfnieebiakeaa

