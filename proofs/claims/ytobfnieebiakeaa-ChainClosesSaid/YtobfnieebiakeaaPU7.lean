import Derived.Test.YtobfnieebiakeaaPM
import Derived.Test.YtobfnieebiakeaaPU1
namespace Go.Proofs.Ytobfnieebiakeaa
open Go Go.Er

set_option maxHeartbeats 4000000 in
theorem isort_nil  (w0 : World) :
  Calls Try.prog 69 #[.slice none 0 0, .int .i64 0, .int .i64 0, .func (.func 37) #[] #[]] w0 fun e w => ∃ v, e = .returned v ∧ (v = .tuple #[] ∧ St w0 [] w []) := by
 have H := St.refl w0
 refine c_enter (args := [.slice none 0 0, .int .i64 0, .int .i64 0, .func (.func 37) #[] #[]]) (l := t50 (t3 [])) Try.func69 Try.ntmps69 rfl rfl ?_
 refine zq 53 ⟨rfl, rfl⟩ ?_
 refine zm ?_
 refine zj ?_
 refine za ?_
 refine zc (t50 (t3 [])) ?_
 refine wp_block ?_
 refine c_loop (fun (l0 : List Value) (i : Nat) (l : List Value) (w : World) => ∃ (u9 u12 u13 u14 u15 u16 u17 u18 u19 u20 u21 u22 u23 u24 u25 u26 u27 u28 u29 u30 u31 u32 u33 u34 u35 u36 u37 u38 u39 u40 u41 u42 u43 u44 u45 u46 u47 u48 u49 u50 u51 u52 : Value) , l = ovr l0 [N_, N_, N_, N_, N_, N_, N_, N_, Y_ (.int .i64 1), Y_ u9, N_, N_, Y_ u12, Y_ u13, Y_ u14, Y_ u15, Y_ u16, Y_ u17, Y_ u18, Y_ u19, Y_ u20, Y_ u21, Y_ u22, Y_ u23, Y_ u24, Y_ u25, Y_ u26, Y_ u27, Y_ u28, Y_ u29, Y_ u30, Y_ u31, Y_ u32, Y_ u33, Y_ u34, Y_ u35, Y_ u36, Y_ u37, Y_ u38, Y_ u39, Y_ u40, Y_ u41, Y_ u42, Y_ u43, Y_ u44, Y_ u45, Y_ u46, Y_ u47, Y_ u48, Y_ u49, Y_ u50, Y_ u51, Y_ u52] ∧ St w0 [] w []) (fun (i : Nat) => i) 0 ⟨_, _, _, _, _, _, _, _, _, _, _, _, _, _, _, _, _, _, _, _, _, _, _, _, _, _, _, _, _, _, _, _, _, _, _, _, _, _, _, _, _, _, rfl, H⟩ ?_
 intro i l w ⟨u9, u12, u13, u14, u15, u16, u17, u18, u19, u20, u21, u22, u23, u24, u25, u26, u27, u28, u29, u30, u31, u32, u33, u34, u35, u36, u37, u38, u39, u40, u41, u42, u43, u44, u45, u46, u47, u48, u49, u50, u51, u52, hl, H⟩
 obtain rfl := hl.trans (rfl : _ = t50 (t3 []))
 clear hl
 refine c_seq ?_
 refine zq 53 ⟨rfl, rfl⟩ ?_
 refine zm ?_
 refine zm ?_
 refine s_val (r_lss rfl rfl) ?_
 refine zc (t50 (t3 [])) ?_
 refine c_if rfl (fun h14 => ?_) (fun h14 => ?_)
 ·exfalso; omega
 ·refine wp_exit (x_thenExit (x_thenExit (x_blockHit ?_)))
  refine e_end (res0 rfl) ⟨_, rfl, ?_⟩
  exact ⟨rfl, H⟩

set_option maxHeartbeats 4000000 in
set_option maxRecDepth 20000 in
theorem pdq_nil (c : Int) (w0 : World) :
  Calls Try.prog 56 #[.slice none 0 0, .int .i64 0, .int .i64 0, .int .i64 c, .func (.func 37) #[] #[]] w0 fun e w => ∃ v, e = .returned v ∧ (v = .tuple #[] ∧ St w0 [] w []) := by
 have H := St.refl w0
 refine c_enter (args := [.slice none 0 0, .int .i64 0, .int .i64 0, .int .i64 c, .func (.func 37) #[] #[]]) (l := t100 (t40 (t8 []))) Try.func56 Try.ntmps56 rfl rfl ?_
 refine zq 148 ⟨rfl, rfl⟩ ?_
 refine za ?_
 refine zc (t100 (t40 (t8 []))) ?_
 refine zq 148 ⟨rfl, rfl⟩ ?_
 refine za ?_
 refine zc (t100 (t40 (t8 []))) ?_
 refine wp_block ?_
 refine c_loop (fun (l0 : List Value) (i : Nat) (l : List Value) (w : World) => ∃ (u12 u13 u14 u15 u16 u17 u18 u19 u20 u21 u22 u23 u24 u25 u26 u27 u28 u29 u30 u31 u32 u33 u34 u35 u36 u37 u38 u39 u40 u41 u42 u43 u44 u45 u46 u47 u48 u49 u50 u51 u52 u53 u54 u55 u56 u57 u58 u59 u60 u61 u62 u63 u64 u65 u66 u67 u68 u69 u70 u71 u72 u73 u74 u75 u76 u77 u78 u79 u80 u81 u82 u83 u84 u85 u86 u87 u88 u89 u90 u91 u92 u93 u94 u95 u96 u97 u98 u99 u100 u101 u102 u103 u104 u105 u106 u107 u108 u109 u110 u111 u112 u113 u114 u115 u116 u117 u118 u119 u120 u121 u122 u123 u124 u125 u126 u127 u128 u129 u130 u131 u132 u133 u134 u135 u136 u137 u138 u139 u140 u141 u142 u143 u144 u145 u146 u147 : Value) , l = ovr l0 [N_, Y_ (.int .i64 0), Y_ (.int .i64 0), Y_ (.int .i64 c), N_, N_, N_, N_, N_, N_, Y_ (.bool true), Y_ (.bool true), Y_ u12, Y_ u13, Y_ u14, Y_ u15, Y_ u16, Y_ u17, Y_ u18, Y_ u19, Y_ u20, Y_ u21, Y_ u22, Y_ u23, Y_ u24, Y_ u25, Y_ u26, Y_ u27, Y_ u28, Y_ u29, Y_ u30, Y_ u31, Y_ u32, Y_ u33, Y_ u34, Y_ u35, Y_ u36, Y_ u37, Y_ u38, Y_ u39, Y_ u40, Y_ u41, Y_ u42, Y_ u43, Y_ u44, Y_ u45, Y_ u46, Y_ u47, Y_ u48, Y_ u49, Y_ u50, Y_ u51, Y_ u52, Y_ u53, Y_ u54, Y_ u55, Y_ u56, Y_ u57, Y_ u58, Y_ u59, Y_ u60, Y_ u61, Y_ u62, Y_ u63, Y_ u64, Y_ u65, Y_ u66, Y_ u67, Y_ u68, Y_ u69, Y_ u70, Y_ u71, Y_ u72, Y_ u73, Y_ u74, Y_ u75, Y_ u76, Y_ u77, Y_ u78, Y_ u79, Y_ u80, Y_ u81, Y_ u82, Y_ u83, Y_ u84, Y_ u85, Y_ u86, Y_ u87, Y_ u88, Y_ u89, Y_ u90, Y_ u91, Y_ u92, Y_ u93, Y_ u94, Y_ u95, Y_ u96, Y_ u97, Y_ u98, Y_ u99, Y_ u100, Y_ u101, Y_ u102, Y_ u103, Y_ u104, Y_ u105, Y_ u106, Y_ u107, Y_ u108, Y_ u109, Y_ u110, Y_ u111, Y_ u112, Y_ u113, Y_ u114, Y_ u115, Y_ u116, Y_ u117, Y_ u118, Y_ u119, Y_ u120, Y_ u121, Y_ u122, Y_ u123, Y_ u124, Y_ u125, Y_ u126, Y_ u127, Y_ u128, Y_ u129, Y_ u130, Y_ u131, Y_ u132, Y_ u133, Y_ u134, Y_ u135, Y_ u136, Y_ u137, Y_ u138, Y_ u139, Y_ u140, Y_ u141, Y_ u142, Y_ u143, Y_ u144, Y_ u145, Y_ u146, Y_ u147] ∧ St w0 [] w []) (fun (i : Nat) => i) 0 ⟨_, _, _, _, _, _, _, _, _, _, _, _, _, _, _, _, _, _, _, _, _, _, _, _, _, _, _, _, _, _, _, _, _, _, _, _, _, _, _, _, _, _, _, _, _, _, _, _, _, _, _, _, _, _, _, _, _, _, _, _, _, _, _, _, _, _, _, _, _, _, _, _, _, _, _, _, _, _, _, _, _, _, _, _, _, _, _, _, _, _, _, _, _, _, _, _, _, _, _, _, _, _, _, _, _, _, _, _, _, _, _, _, _, _, _, _, _, _, _, _, _, _, _, _, _, _, _, _, _, _, _, _, _, _, _, _, rfl, H⟩ ?_
 intro i l w ⟨u12, u13, u14, u15, u16, u17, u18, u19, u20, u21, u22, u23, u24, u25, u26, u27, u28, u29, u30, u31, u32, u33, u34, u35, u36, u37, u38, u39, u40, u41, u42, u43, u44, u45, u46, u47, u48, u49, u50, u51, u52, u53, u54, u55, u56, u57, u58, u59, u60, u61, u62, u63, u64, u65, u66, u67, u68, u69, u70, u71, u72, u73, u74, u75, u76, u77, u78, u79, u80, u81, u82, u83, u84, u85, u86, u87, u88, u89, u90, u91, u92, u93, u94, u95, u96, u97, u98, u99, u100, u101, u102, u103, u104, u105, u106, u107, u108, u109, u110, u111, u112, u113, u114, u115, u116, u117, u118, u119, u120, u121, u122, u123, u124, u125, u126, u127, u128, u129, u130, u131, u132, u133, u134, u135, u136, u137, u138, u139, u140, u141, u142, u143, u144, u145, u146, u147, hl, H⟩
 obtain rfl := hl.trans (rfl : _ = t100 (t40 (t8 [])))
 clear hl
 refine wp_block ?_
 refine zq 148 ⟨rfl, rfl⟩ ?_
 refine zm ?_
 refine zm ?_
 refine zk ?_
 refine za ?_
 refine zc (t100 (t40 (t8 []))) ?_
 refine c_seq ?_
 refine zq 148 ⟨rfl, rfl⟩ ?_
 refine zm ?_
 refine s_val (r_leq rfl rfl) ?_
 refine zc (t100 (t40 (t8 []))) ?_
 refine c_if rfl (fun h25 => ?_) (fun h25 => ?_)
 ·refine zq 148 ⟨rfl, rfl⟩ ?_
  refine zm ?_
  refine zm ?_
  refine zm ?_
  refine zm ?_
  refine s_call (r_call Try.call69 (ec rfl (ec rfl (ec rfl (ec rfl en))))) (isort_nil _) ?_
  rintro v w ⟨rfl, HC⟩
  replace H := H.quiet HC
  refine zc (t100 (t40 (t8 []))) ?_
  refine wp_ret (x_thenRet (x_blockRet (x_thenRet (x_blockRet ?_))))
  refine zw (res0 rfl) ?_
  exact ⟨rfl, H⟩
 ·exfalso; omega

set_option maxHeartbeats 4000000 in
theorem sort_nil  (w0 : World) :
  Calls Try.prog 36 #[.slice none 0 0, .func (.func 37) #[] #[]] w0 fun e w => ∃ v, e = .returned v ∧ (v = .tuple #[] ∧ St w0 [] w []) := by
 have H := St.refl w0
 refine c_enter (args := [.slice none 0 0, .func (.func 37) #[] #[]]) (l := t10 (t4 [])) Try.func36 Try.ntmps36 rfl rfl ?_
 refine zq 14 ⟨rfl, rfl⟩ ?_
 refine zm ?_
 refine s_val (r_lens qu85 (ec rfl en)) ?_
 refine za ?_
 refine zc (t10 (t4 [])) ?_
 refine c_region (n := 14) ⟨rfl, rfl⟩ ?_
 refine zm ?_
 refine zm ?_
 refine zm ?_
 refine s_val (r_conv qu3 qu102 rfl v6) ?_
 refine s_call (r_call qc57 (ec rfl en)) (len_spec 0 (by omega) _) ?_
 rintro v w ⟨c, hlen, rfl, HC⟩
 replace H := H.quiet HC
 refine zm ?_
 refine s_call (r_call qc56 (ec rfl (ec rfl (ec rfl (ec rfl (ec rfl en)))))) (pdq_nil _ _) ?_
 rintro v w ⟨rfl, HC⟩
 replace H := H.quiet HC
 refine zb (t10 (t4 [])) ?_
 refine e_end (res0 rfl) ⟨_, rfl, ?_⟩
 exact ⟨rfl, H⟩

end Go.Proofs.Ytobfnieebiakeaa

