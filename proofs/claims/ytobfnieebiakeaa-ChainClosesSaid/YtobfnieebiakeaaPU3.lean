import Derived.Test.YtobfnieebiakeaaPM
import Derived.Test.YtobfnieebiakeaaPU0
namespace Go.Proofs.Ytobfnieebiakeaa
open Go Go.Er

set_option maxHeartbeats 4000000 in
set_option maxRecDepth 20000 in
theorem pis_spec (b n cap : Nat) (ys : List Held) (sp : List Value) (a z : Nat) (hnl : n = ys.length) (_haz : a ≤ z) (he : z ≤ ys.length) (hl : ys.length ≤ 1000000) (hz : a < z) (h50 : z - a < 50) (w0 : World) (hb : w0.heap[b]? = some (.cells (hsC ys ++ sp).toArray 88 (0, 0))) :
  Calls Try.prog 74 #[.slice (some ⟨b, 0, none⟩) n cap, .int .i64 (a : Nat), .int .i64 (z : Nat), .func (.func 37) #[] #[]] w0 fun e w => ∃ v, e = .returned v ∧ (∃ r : Bool, v = .bool r ∧ (r = true → Srt Held.zero atK a z ys) ∧ St w0 [] w []) := by
 have H := St.refl w0
 refine c_enter (args := [.slice (some ⟨b, 0, none⟩) n cap, .int .i64 (a : Nat), .int .i64 (z : Nat), .func (.func 37) #[] #[]]) (l := t100 (t40 (t1 []))) Try.func74 Try.ntmps74 rfl rfl ?_
 refine zq 141 ⟨rfl, rfl⟩ ?_
 refine za ?_
 refine zc (t100 (t40 (t1 []))) ?_
 refine zq 141 ⟨rfl, rfl⟩ ?_
 refine zm ?_
 refine zj ?_
 refine za ?_
 refine zc (t100 (t40 (t1 []))) ?_
 refine c_seq ?_
 refine zq 141 ⟨rfl, rfl⟩ ?_
 refine za ?_
 refine zc (t100 (t40 (t1 []))) ?_
 refine wp_block ?_
 refine c_loop (fun (l0 : List Value) (q : Nat) (l : List Value) (w : World) => ∃ (u8 u11 u12 u15 u16 u17 u18 u19 u20 u21 u22 u23 u24 u25 u26 u27 u28 u29 u30 u31 u32 u33 u34 u35 u36 u37 u38 u39 u40 u41 u42 u43 u44 u45 u46 u47 u48 u49 u50 u51 u52 u53 u54 u55 u56 u57 u58 u59 u60 u61 u62 u63 u64 u65 u66 u67 u68 u69 u70 u71 u72 u73 u74 u75 u76 u77 u78 u79 u80 u81 u82 u83 u84 u85 u86 u87 u88 u89 u90 u91 u92 u93 u94 u95 u96 u97 u98 u99 u100 u101 u102 u103 u104 u105 u106 u107 u108 u109 u110 u111 u112 u113 u114 u115 u116 u117 u118 u119 u120 u121 u122 u123 u124 u125 u126 u127 u128 u129 u130 u131 u132 u133 u134 u135 u136 u137 u138 u139 u140 : Value) , l = ovr l0 [N_, N_, N_, N_, N_, N_, N_, N_, Y_ u8, Y_ (.int .i64 (a + 1 : Nat)), Y_ (.int .i64 0), Y_ u11, Y_ u12, N_, N_, Y_ u15, Y_ u16, Y_ u17, Y_ u18, Y_ u19, Y_ u20, Y_ u21, Y_ u22, Y_ u23, Y_ u24, Y_ u25, Y_ u26, Y_ u27, Y_ u28, Y_ u29, Y_ u30, Y_ u31, Y_ u32, Y_ u33, Y_ u34, Y_ u35, Y_ u36, Y_ u37, Y_ u38, Y_ u39, Y_ u40, Y_ u41, Y_ u42, Y_ u43, Y_ u44, Y_ u45, Y_ u46, Y_ u47, Y_ u48, Y_ u49, Y_ u50, Y_ u51, Y_ u52, Y_ u53, Y_ u54, Y_ u55, Y_ u56, Y_ u57, Y_ u58, Y_ u59, Y_ u60, Y_ u61, Y_ u62, Y_ u63, Y_ u64, Y_ u65, Y_ u66, Y_ u67, Y_ u68, Y_ u69, Y_ u70, Y_ u71, Y_ u72, Y_ u73, Y_ u74, Y_ u75, Y_ u76, Y_ u77, Y_ u78, Y_ u79, Y_ u80, Y_ u81, Y_ u82, Y_ u83, Y_ u84, Y_ u85, Y_ u86, Y_ u87, Y_ u88, Y_ u89, Y_ u90, Y_ u91, Y_ u92, Y_ u93, Y_ u94, Y_ u95, Y_ u96, Y_ u97, Y_ u98, Y_ u99, Y_ u100, Y_ u101, Y_ u102, Y_ u103, Y_ u104, Y_ u105, Y_ u106, Y_ u107, Y_ u108, Y_ u109, Y_ u110, Y_ u111, Y_ u112, Y_ u113, Y_ u114, Y_ u115, Y_ u116, Y_ u117, Y_ u118, Y_ u119, Y_ u120, Y_ u121, Y_ u122, Y_ u123, Y_ u124, Y_ u125, Y_ u126, Y_ u127, Y_ u128, Y_ u129, Y_ u130, Y_ u131, Y_ u132, Y_ u133, Y_ u134, Y_ u135, Y_ u136, Y_ u137, Y_ u138, Y_ u139, Y_ u140] ∧ St w0 [] w []) (fun (q : Nat) => q) 0 ⟨_, _, _, _, _, _, _, _, _, _, _, _, _, _, _, _, _, _, _, _, _, _, _, _, _, _, _, _, _, _, _, _, _, _, _, _, _, _, _, _, _, _, _, _, _, _, _, _, _, _, _, _, _, _, _, _, _, _, _, _, _, _, _, _, _, _, _, _, _, _, _, _, _, _, _, _, _, _, _, _, _, _, _, _, _, _, _, _, _, _, _, _, _, _, _, _, _, _, _, _, _, _, _, _, _, _, _, _, _, _, _, _, _, _, _, _, _, _, _, _, _, _, _, _, _, _, _, _, _, rfl, H⟩ ?_
 intro q l w ⟨u8, u11, u12, u15, u16, u17, u18, u19, u20, u21, u22, u23, u24, u25, u26, u27, u28, u29, u30, u31, u32, u33, u34, u35, u36, u37, u38, u39, u40, u41, u42, u43, u44, u45, u46, u47, u48, u49, u50, u51, u52, u53, u54, u55, u56, u57, u58, u59, u60, u61, u62, u63, u64, u65, u66, u67, u68, u69, u70, u71, u72, u73, u74, u75, u76, u77, u78, u79, u80, u81, u82, u83, u84, u85, u86, u87, u88, u89, u90, u91, u92, u93, u94, u95, u96, u97, u98, u99, u100, u101, u102, u103, u104, u105, u106, u107, u108, u109, u110, u111, u112, u113, u114, u115, u116, u117, u118, u119, u120, u121, u122, u123, u124, u125, u126, u127, u128, u129, u130, u131, u132, u133, u134, u135, u136, u137, u138, u139, u140, hl, H⟩
 obtain rfl := hl.trans (rfl : _ = t100 (t40 (t1 [])))
 clear hl
 refine c_seq ?_
 refine zq 141 ⟨rfl, rfl⟩ ?_
 refine zm ?_
 refine s_val (r_lss rfl rfl) ?_
 refine zc (t100 (t40 (t1 []))) ?_
 refine c_if rfl (fun h16 => ?_) (fun h16 => ?_)
 ·refine wp_skip ?_
  refine x_thenNormal ?_
  refine c_seq ?_
  refine wp_block ?_
  refine c_seq ?_
  refine wp_block ?_
  refine c_loop (fun (l0 : List Value) (i : Nat) (l : List Value) (w : World) => ∃ (u19 u20 u21 u22 u23 u24 u25 u26 u27 u28 u29 u30 u31 u32 u33 u34 u35 u36 u37 u38 : Value) , l = ovr l0 [N_, N_, N_, N_, N_, N_, N_, N_, N_, Y_ (.int .i64 i), N_, N_, N_, N_, N_, N_, N_, N_, N_, Y_ u19, Y_ u20, Y_ u21, Y_ u22, Y_ u23, Y_ u24, Y_ u25, Y_ u26, Y_ u27, Y_ u28, Y_ u29, Y_ u30, Y_ u31, Y_ u32, Y_ u33, Y_ u34, Y_ u35, Y_ u36, Y_ u37, Y_ u38] ∧ a < i ∧ i ≤ z ∧ Srt Held.zero atK a i ys ∧ St w0 [] w []) (fun (i : Nat) => z - i) (a + 1) ⟨_, _, _, _, _, _, _, _, _, _, _, _, _, _, _, _, _, _, _, _, rfl, by omega, by omega, (fun p q _ _ _ => by omega), H⟩ ?_
  intro i l w ⟨u19, u20, u21, u22, u23, u24, u25, u26, u27, u28, u29, u30, u31, u32, u33, u34, u35, u36, u37, u38, hl, hai, hiz, hs, H⟩
  obtain rfl := hl.trans (rfl : _ = t100 (t40 (t1 [])))
  clear hl
  refine c_seq ?_
  refine c_seq ?_
  refine d_begin (sz := 141) ⟨rfl, rfl⟩ (by kernel_rfl) H (H) rfl ?_
  intro w H
  refine zM 0 H ?_
  refine zM 1 H ?_
  refine zd 2 rfl (by kernel_rfl) (fun _ _ _ h => h) H (r_lss rfl rfl) rfl ?_
  refine d_part (fun h21 => ?_) (fun h21 => ?_)
  ·refine zM 3 H ?_
   refine zG 4 rfl rfl rfl (by kernel_rfl) (fun _ _ _ h => h) H (r_move rfl) rfl ?_
   refine zG 5 rfl rfl rfl (by kernel_rfl) (fun _ _ _ h => h) H (r_move rfl) rfl ?_
   refine zG 6 rfl rfl rfl (by kernel_rfl) (fun _ _ _ h => h) H (r_move rfl) rfl ?_
   refine zG 7 rfl rfl rfl (by kernel_rfl) (fun _ _ _ h => h) H (ziS qu85 qs88) rfl ?_
   refine d_takeG (i := 8) rfl (by kernel_rfl) (fun _ _ _ h => h) rfl rfl H (fun _ HS => r_loadn qg88 qs88 rfl (HS.rd0 hb) (hs_ld ys sp (i) (by omega) (by omega)) (by first | exact (kC_length _) | exact (hC_length _) | exact rfl)) rfl ?_
   refine zG 9 rfl rfl rfl (by kernel_rfl) (fun _ _ _ h => h) H (r_move rfl) rfl ?_
   refine zG 10 rfl rfl rfl (by kernel_rfl) (fun _ _ _ h => h) H (r_move rfl) rfl ?_
   refine zG 11 rfl rfl rfl (by kernel_rfl) (fun _ _ _ h => h) H (r_sub rfl rfl (wr (r := ((i - 1 : Nat) : Int)))) rfl ?_
   refine zG 12 rfl rfl rfl (by kernel_rfl) (fun _ _ _ h => h) H (ziS qu85 qs88) rfl ?_
   refine d_takeG (i := 13) rfl (by kernel_rfl) (fun _ _ _ h => h) rfl rfl H (fun _ HS => r_loadn qg88 qs88 rfl (HS.rd0 hb) (hs_ld ys sp (i - 1) (by omega) (by omega)) (by first | exact (kC_length _) | exact (hC_length _) | exact rfl)) rfl ?_
   refine zl1 14 ?_
   refine b_call rfl (go_some rfl rfl) (r_callv qc37 rfl (ec rfl (ec rfl en)) rfl) (punc2_spec _ _ _) rfl ?_
   rintro v w ⟨rfl, HC⟩
   replace H := H.quiet HC
   refine ⟨H, ?_⟩
   refine zG 15 rfl rfl rfl (by kernel_rfl) (fun _ _ _ h => h) H (r_lss rfl rfl) rfl ?_
   refine zG 16 rfl rfl rfl (by kernel_rfl) (fun _ _ _ h => h) H (r_notp rfl) rfl ?_
   refine zd 17 rfl (by kernel_rfl) (fun _ _ _ h => h) H (r_pickt rfl rfl) rfl ?_
   refine zz (t100 (t40 (t1 []))) ?_
   refine x_thenNormal ?_
   refine c_if rfl (fun h36 => ?_) (fun h36 => ?_)
   ·have hcm36 := mt cmpI_neg.2 h36
    refine wp_skip ?_
    refine x_thenNormal ?_
    refine wp_block ?_
    refine c_region (n := 141) ⟨rfl, rfl⟩ ?_
    refine zm ?_
    refine zj ?_
    refine za ?_
    refine zb (t100 (t40 (t1 []))) ?_
    refine x_blockNormal ?_
    exact ⟨i + 1, _, rfl, ⟨_, _, _, _, _, _, _, _, _, _, _, _, _, _, _, _, _, _, _, _, rfl, by omega, by omega, (hs.snoc hcm36), H⟩, by omega⟩
   ·have hcm36 := cmpI_neg.1 (Decidable.not_not.1 h36)
    refine wp_exit (x_thenExit (x_thenExit (x_blockHit ?_)))
    refine x_thenNormal ?_
    refine c_seq ?_
    refine zq 141 ⟨rfl, rfl⟩ ?_
    refine zm ?_
    refine zm ?_
    refine s_val (r_eql rfl rfl) ?_
    refine zc (t100 (t40 (t1 []))) ?_
    refine c_if rfl (fun h41 => ?_) (fun h41 => ?_)
    ·refine zq 141 ⟨rfl, rfl⟩ ?_
     refine za ?_
     refine zc (t100 (t40 (t1 []))) ?_
     refine wp_ret (x_thenRet (x_blockRet (x_thenRet (x_thenRet (x_blockRet (x_thenRet ?_))))))
     refine zw (res1 rfl rfl) ?_
     exact ⟨true, rfl, fun _ p q h1 h2 h3 => hs p q h1 h2 (by omega), H⟩
    ·refine wp_skip ?_
     refine x_thenNormal ?_
     refine c_seq ?_
     refine zq 141 ⟨rfl, rfl⟩ ?_
     refine zm ?_
     refine zm ?_
     refine s_val (r_sub rfl rfl (wr (r := ((z - a : Nat) : Int)))) ?_
     refine s_val (r_lss rfl rfl) ?_
     refine zc (t100 (t40 (t1 []))) ?_
     refine c_if rfl (fun h45 => ?_) (fun h45 => ?_)
     ·refine zq 141 ⟨rfl, rfl⟩ ?_
      refine za ?_
      refine zc (t100 (t40 (t1 []))) ?_
      refine wp_ret (x_thenRet (x_blockRet (x_thenRet (x_thenRet (x_blockRet (x_thenRet ?_))))))
      refine zw (res1 rfl rfl) ?_
      exact ⟨false, rfl, (fun h => nomatch h), H⟩
     ·exfalso; omega
  ·refine zM 3 H ?_
   refine zN 4 H ?_
   refine zN 5 H ?_
   refine zN 6 H ?_
   refine zN 7 H ?_
   refine zN 8 H ?_
   refine zN 9 H ?_
   refine zN 10 H ?_
   refine zN 11 H ?_
   refine zN 12 H ?_
   refine zN 13 H ?_
   refine zN 14 H ?_
   refine zN 15 H ?_
   refine zN 16 H ?_
   refine zd 17 rfl (by kernel_rfl) (fun _ _ _ h => h) H (r_pickf rfl rfl) rfl ?_
   refine zz (t100 (t40 (t1 []))) ?_
   refine x_thenNormal ?_
   refine c_iff rfl ?_
   refine wp_exit (x_thenExit (x_thenExit (x_blockHit ?_)))
   refine x_thenNormal ?_
   refine c_seq ?_
   refine zq 141 ⟨rfl, rfl⟩ ?_
   refine zm ?_
   refine zm ?_
   refine s_val (r_eql rfl rfl) ?_
   refine zc (t100 (t40 (t1 []))) ?_
   refine c_if rfl (fun h41 => ?_) (fun h41 => ?_)
   ·refine zq 141 ⟨rfl, rfl⟩ ?_
    refine za ?_
    refine zc (t100 (t40 (t1 []))) ?_
    refine wp_ret (x_thenRet (x_blockRet (x_thenRet (x_thenRet (x_blockRet (x_thenRet ?_))))))
    refine zw (res1 rfl rfl) ?_
    exact ⟨true, rfl, fun _ p q h1 h2 h3 => hs p q h1 h2 (by omega), H⟩
   ·refine wp_skip ?_
    refine x_thenNormal ?_
    refine c_seq ?_
    refine zq 141 ⟨rfl, rfl⟩ ?_
    refine zm ?_
    refine zm ?_
    refine s_val (r_sub rfl rfl (wr (r := ((z - a : Nat) : Int)))) ?_
    refine s_val (r_lss rfl rfl) ?_
    refine zc (t100 (t40 (t1 []))) ?_
    refine c_if rfl (fun h45 => ?_) (fun h45 => ?_)
    ·refine zq 141 ⟨rfl, rfl⟩ ?_
     refine za ?_
     refine zc (t100 (t40 (t1 []))) ?_
     refine wp_ret (x_thenRet (x_blockRet (x_thenRet (x_thenRet (x_blockRet (x_thenRet ?_))))))
     refine zw (res1 rfl rfl) ?_
     exact ⟨false, rfl, (fun h => nomatch h), H⟩
    ·exfalso; omega
 ·exfalso; omega

end Go.Proofs.Ytobfnieebiakeaa

