import Derived.Test.YtobfnieebiakeaaPM
import Derived.Test.YtobfnieebiakeaaPU1
import Derived.Test.YtobfnieebiakeaaPU2
import Derived.Test.YtobfnieebiakeaaPU3
namespace Go.Proofs.Ytobfnieebiakeaa
open Go Go.Er

def PdqUpTo (k : Nat) : Prop := ∀ (b n cap : Nat) (ys : List Held) (sp : List Value) (a z c : Nat) (_ : n = ys.length) (_ : a ≤ z) (_ : z ≤ ys.length) (_ : ys.length ≤ 1000000) (_ : z - a ≤ 12 + c) (_ : c ≤ 64) (_ : z - a < 18) (_ : Unl Held.zero atK ys) (_ : Ahead Held.zero atK a z ys) (_ : z - a < k) (w0 : World) (_ : Go.Er.Own w0 [(b, .cells (hsC ys ++ sp).toArray 88 (0, 0))]),
  Calls Try.prog 56 #[.slice (some ⟨b, 0, none⟩) n cap, .int .i64 (a : Nat), .int .i64 (z : Nat), .int .i64 (c : Nat), .func (.func 37) #[] #[]] w0 fun e w => ∃ v, e = .returned v ∧ (v = .tuple #[] ∧ ∃ zs, Sw Held.zero a z ys zs ∧ Srt Held.zero atK a z zs ∧ St w0 [b] w [(b, .cells (hsC zs ++ sp).toArray 88 (0, 0))])

set_option maxHeartbeats 4000000 in
set_option maxRecDepth 20000 in
theorem pdq_step (b n cap : Nat) (ys : List Held) (sp : List Value) (a z : Nat) (c : Nat) (hnl : n = ys.length) (haz : a ≤ z) (he : z ≤ ys.length) (hl : ys.length ≤ 1000000) (hlim : z - a ≤ 12 + c) (hc : c ≤ 64) (h17 : z - a < 18) (hu : Unl Held.zero atK ys) (hah : Ahead Held.zero atK a z ys) (k : Nat) (ih : PdqUpTo k) (hk : z - a < k + 1) (w0 : World) (hown : Go.Er.Own w0 [(b, .cells (hsC ys ++ sp).toArray 88 (0, 0))]) :
  Calls Try.prog 56 #[.slice (some ⟨b, 0, none⟩) n cap, .int .i64 (a : Nat), .int .i64 (z : Nat), .int .i64 (c : Nat), .func (.func 37) #[] #[]] w0 fun e w => ∃ v, e = .returned v ∧ (v = .tuple #[] ∧ ∃ zs, Sw Held.zero a z ys zs ∧ Srt Held.zero atK a z zs ∧ St w0 [b] w [(b, .cells (hsC zs ++ sp).toArray 88 (0, 0))]) := by
 have H : St w0 [b] w0 [(b, .cells (hsC ys ++ sp).toArray 88 (0, 0))] := hown.st
 refine c_enter (args := [.slice (some ⟨b, 0, none⟩) n cap, .int .i64 (a : Nat), .int .i64 (z : Nat), .int .i64 (c : Nat), .func (.func 37) #[] #[]]) (l := t100 (t40 (t8 []))) Try.func56 Try.ntmps56 rfl rfl ?_
 refine zq 148 ⟨rfl, rfl⟩ ?_
 refine za ?_
 refine zc (t100 (t40 (t8 []))) ?_
 refine zq 148 ⟨rfl, rfl⟩ ?_
 refine za ?_
 refine zc (t100 (t40 (t8 []))) ?_
 refine wp_block ?_
 refine c_loop (fun (l0 : List Value) (t : Nat) (l : List Value) (w : World) => ∃ (u12 u13 u14 u15 u16 u17 u18 u19 u20 u21 u22 u23 u24 u25 u26 u27 u28 u29 u30 u31 u32 u33 u34 u35 u36 u37 u38 u39 u40 u41 u42 u43 u44 u45 u46 u47 u48 u49 u50 u51 u52 u53 u54 u55 u56 u57 u58 u59 u60 u61 u62 u63 u64 u65 u66 u67 u68 u69 u70 u71 u72 u73 u74 u75 u76 u77 u78 u79 u80 u81 u82 u83 u84 u85 u86 u87 u88 u89 u90 u91 u92 u93 u94 u95 u96 u97 u98 u99 u100 u101 u102 u103 u104 u105 u106 u107 u108 u109 u110 u111 u112 u113 u114 u115 u116 u117 u118 u119 u120 u121 u122 u123 u124 u125 u126 u127 u128 u129 u130 u131 u132 u133 u134 u135 u136 u137 u138 u139 u140 u141 u142 u143 u144 u145 u146 u147 : Value) (aa zz cc : Nat) (wb wp : Bool) (zs : List Held), l = ovr l0 [N_, Y_ (.int .i64 aa), Y_ (.int .i64 zz), Y_ (.int .i64 cc), N_, N_, N_, N_, N_, N_, Y_ (.bool wb), Y_ (.bool wp), Y_ u12, Y_ u13, Y_ u14, Y_ u15, Y_ u16, Y_ u17, Y_ u18, Y_ u19, Y_ u20, Y_ u21, Y_ u22, Y_ u23, Y_ u24, Y_ u25, Y_ u26, Y_ u27, Y_ u28, Y_ u29, Y_ u30, Y_ u31, Y_ u32, Y_ u33, Y_ u34, Y_ u35, Y_ u36, Y_ u37, Y_ u38, Y_ u39, Y_ u40, Y_ u41, Y_ u42, Y_ u43, Y_ u44, Y_ u45, Y_ u46, Y_ u47, Y_ u48, Y_ u49, Y_ u50, Y_ u51, Y_ u52, Y_ u53, Y_ u54, Y_ u55, Y_ u56, Y_ u57, Y_ u58, Y_ u59, Y_ u60, Y_ u61, Y_ u62, Y_ u63, Y_ u64, Y_ u65, Y_ u66, Y_ u67, Y_ u68, Y_ u69, Y_ u70, Y_ u71, Y_ u72, Y_ u73, Y_ u74, Y_ u75, Y_ u76, Y_ u77, Y_ u78, Y_ u79, Y_ u80, Y_ u81, Y_ u82, Y_ u83, Y_ u84, Y_ u85, Y_ u86, Y_ u87, Y_ u88, Y_ u89, Y_ u90, Y_ u91, Y_ u92, Y_ u93, Y_ u94, Y_ u95, Y_ u96, Y_ u97, Y_ u98, Y_ u99, Y_ u100, Y_ u101, Y_ u102, Y_ u103, Y_ u104, Y_ u105, Y_ u106, Y_ u107, Y_ u108, Y_ u109, Y_ u110, Y_ u111, Y_ u112, Y_ u113, Y_ u114, Y_ u115, Y_ u116, Y_ u117, Y_ u118, Y_ u119, Y_ u120, Y_ u121, Y_ u122, Y_ u123, Y_ u124, Y_ u125, Y_ u126, Y_ u127, Y_ u128, Y_ u129, Y_ u130, Y_ u131, Y_ u132, Y_ u133, Y_ u134, Y_ u135, Y_ u136, Y_ u137, Y_ u138, Y_ u139, Y_ u140, Y_ u141, Y_ u142, Y_ u143, Y_ u144, Y_ u145, Y_ u146, Y_ u147] ∧ a ≤ aa ∧ aa ≤ zz ∧ zz ≤ z ∧ Sw Held.zero a z ys zs ∧ Outer Held.zero atK a z aa zz zs ∧ zz - aa ≤ 12 + cc ∧ cc ≤ 64 ∧ Ahead Held.zero atK aa zz zs ∧ t = zz - aa ∧ St w0 [b] w [(b, .cells (hsC zs ++ sp).toArray 88 (0, 0))]) (fun (t : Nat) => t) (z - a) ⟨_, _, _, _, _, _, _, _, _, _, _, _, _, _, _, _, _, _, _, _, _, _, _, _, _, _, _, _, _, _, _, _, _, _, _, _, _, _, _, _, _, _, _, _, _, _, _, _, _, _, _, _, _, _, _, _, _, _, _, _, _, _, _, _, _, _, _, _, _, _, _, _, _, _, _, _, _, _, _, _, _, _, _, _, _, _, _, _, _, _, _, _, _, _, _, _, _, _, _, _, _, _, _, _, _, _, _, _, _, _, _, _, _, _, _, _, _, _, _, _, _, _, _, _, _, _, _, _, _, _, _, _, _, _, _, _, a, z, c, true, true, ys, rfl, by omega, by omega, by omega, .refl, Outer.start, by omega, by omega, hah, rfl, H⟩ ?_
 intro t l w ⟨u12, u13, u14, u15, u16, u17, u18, u19, u20, u21, u22, u23, u24, u25, u26, u27, u28, u29, u30, u31, u32, u33, u34, u35, u36, u37, u38, u39, u40, u41, u42, u43, u44, u45, u46, u47, u48, u49, u50, u51, u52, u53, u54, u55, u56, u57, u58, u59, u60, u61, u62, u63, u64, u65, u66, u67, u68, u69, u70, u71, u72, u73, u74, u75, u76, u77, u78, u79, u80, u81, u82, u83, u84, u85, u86, u87, u88, u89, u90, u91, u92, u93, u94, u95, u96, u97, u98, u99, u100, u101, u102, u103, u104, u105, u106, u107, u108, u109, u110, u111, u112, u113, u114, u115, u116, u117, u118, u119, u120, u121, u122, u123, u124, u125, u126, u127, u128, u129, u130, u131, u132, u133, u134, u135, u136, u137, u138, u139, u140, u141, u142, u143, u144, u145, u146, u147, aa, zz, cc, wb, wp, zs, hl, h1, h2, h3, hsw, ho, h4, h5, hah1, ht, H⟩
 obtain rfl := hl.trans (rfl : _ = t100 (t40 (t8 [])))
 clear hl
 have hlen := hsw.length
 have hun := hu.sw hsw
 refine wp_block ?_
 refine zq 148 ⟨rfl, rfl⟩ ?_
 refine zm ?_
 refine zm ?_
 refine s_val (r_sub rfl rfl (wr (r := ((zz - aa : Nat) : Int)))) ?_
 refine za ?_
 refine zc (t100 (t40 (t8 []))) ?_
 refine c_seq ?_
 refine zq 148 ⟨rfl, rfl⟩ ?_
 refine zm ?_
 refine s_val (r_leq rfl rfl) ?_
 refine zc (t100 (t40 (t8 []))) ?_
 refine c_if rfl (fun h25 => ?_) (fun h25 => ?_)
 ·refine zq 148 ⟨rfl, rfl⟩ ?_
  refine zm ?_
  refine zm ?_
  refine zm ?_
  refine zm ?_
  refine s_call (r_call Try.call69 (ec rfl (ec rfl (ec rfl (ec rfl en))))) (isort_spec _ _ _ _ _ _ _ (by omega) (by omega) (by omega) (by omega) _ H.owns0) ?_
  rintro v w ⟨rfl, zs2, hsw2, hs2, HC⟩
  replace H := St.call (F := [_]) (L := []) H HC
  refine zc (t100 (t40 (t8 []))) ?_
  refine wp_ret (x_thenRet (x_blockRet (x_thenRet (x_blockRet ?_))))
  refine zw (res0 rfl) ?_
  exact ⟨rfl, zs2, hsw.trans (hsw2.mono (by omega) (by omega) (by omega)), (ho.sw (by omega) (by omega) hsw2).fin hs2, H⟩
 ·refine wp_skip ?_
  refine x_thenNormal ?_
  refine c_seq ?_
  refine zq 148 ⟨rfl, rfl⟩ ?_
  refine zm ?_
  refine s_val (r_eql rfl rfl) ?_
  refine zc (t100 (t40 (t8 []))) ?_
  refine c_if rfl (fun h32 => ?_) (fun h32 => ?_)
  ·exfalso; omega
  ·refine wp_skip ?_
   refine x_thenNormal ?_
   refine c_cut (fun (l0 : List Value) (l : List Value) (w : World) => ∃ (u38 u39 u40 u41 u42 u43 u44 u45 u46 : Value) (cc2 : Nat) (zs2 : List Held), l = ovr l0 [N_, N_, N_, Y_ (.int .i64 cc2), N_, N_, N_, N_, N_, N_, N_, N_, N_, N_, N_, N_, N_, N_, N_, N_, N_, N_, N_, N_, N_, N_, N_, N_, N_, N_, N_, N_, N_, N_, N_, N_, N_, N_, Y_ u38, Y_ u39, Y_ u40, Y_ u41, Y_ u42, Y_ u43, Y_ u44, Y_ u45, Y_ u46] ∧ Sw Held.zero aa zz zs zs2 ∧ zz - aa ≤ 12 + cc2 + 1 ∧ cc2 ≤ 64 ∧ St w0 [b] w [(b, .cells (hsC zs2 ++ sp).toArray 88 (0, 0))]) ?_ ?_
   ·cases wb
    ·refine zq 148 ⟨rfl, rfl⟩ ?_
     refine zm ?_
     refine s_val (r_not rfl) ?_
     refine zc (t100 (t40 (t8 []))) ?_
     refine c_ift rfl ?_
     refine zq 148 ⟨rfl, rfl⟩ ?_
     refine zm ?_
     refine zm ?_
     refine zm ?_
     refine zm ?_
     refine s_call (r_call Try.call71 (ec rfl (ec rfl (ec rfl (ec rfl en))))) (brk_spec _ _ _ _ _ _ _ (by omega) (by omega) (by omega) (by omega) (by omega) _ H.owns0) ?_
     rintro v w ⟨rfl, zs2, hsw2, HC⟩
     replace H := St.call (F := [_]) (L := []) H HC
     refine zc (t100 (t40 (t8 []))) ?_
     refine c_region (n := 148) ⟨rfl, rfl⟩ ?_
     refine zm ?_
     skip
     refine s_val (r_sub rfl rfl (wr (r := ((cc - 1 : Nat) : Int)))) ?_
     refine za ?_
     refine zb (t100 (t40 (t8 []))) ?_
     exact ⟨_, rfl, ⟨_, _, _, _, _, _, _, _, _, _, _, rfl, hsw2, by omega, by omega, H⟩⟩
    ·refine zq 148 ⟨rfl, rfl⟩ ?_
     refine zm ?_
     refine s_val (r_not rfl) ?_
     refine zc (t100 (t40 (t8 []))) ?_
     refine c_iff rfl ?_
     refine wp_skip ?_
     exact ⟨_, rfl, ⟨_, _, _, _, _, _, _, _, _, _, _, rfl, .refl, by omega, by omega, H⟩⟩
   ·rintro l w ⟨u38, u39, u40, u41, u42, u43, u44, u45, u46, cc2, zs2, hl, hsw2, h6, h7, H⟩
    obtain rfl := hl.trans (rfl : _ = t100 (t40 (t8 [])))
    clear hl
    have hlen2 := hsw2.length
    have hou2 := ho.sw (by omega) (by omega) hsw2
    have hah2 := hah1.sw hsw2
    have hun2 := hun.sw hsw2
    refine zq 148 ⟨rfl, rfl⟩ ?_
    refine zm ?_
    refine zm ?_
    refine zm ?_
    refine zm ?_
    refine s_call (r_call Try.call72 (ec rfl (ec rfl (ec rfl (ec rfl en))))) (piv_spec _ _ _ _ _ _ _ (by omega) (by omega) (by omega) (by omega) (by omega) (by omega) _ (H.at 0 rfl)) ?_
    rintro v w ⟨p, hh, rfl, hap, hpz, hh2, HC⟩
    replace H := H.quiet HC
    refine zm ?_
    refine ze ?_
    refine ze ?_
    refine za ?_
    refine za ?_
    refine zc (t100 (t40 (t8 []))) ?_
    refine c_seq ?_
    refine zq 148 ⟨rfl, rfl⟩ ?_
    refine zm ?_
    refine s_val (r_eql rfl rfl) ?_
    refine zc (t100 (t40 (t8 []))) ?_
    refine c_if rfl (fun h56 => ?_) (fun h56 => ?_)
    ·exact absurd h56 hh2
    ·refine wp_skip ?_
     refine x_thenNormal ?_
     refine c_cut (fun (l0 : List Value) (l : List Value) (w : World) => ∃ (u68 u69 u70 u71 u72 u73 u74 u75 u76 u77 u78 u79 u80 : Value) , l = ovr l0 [N_, N_, N_, N_, N_, N_, N_, N_, N_, N_, N_, N_, N_, N_, N_, N_, N_, N_, N_, N_, N_, N_, N_, N_, N_, N_, N_, N_, N_, N_, N_, N_, N_, N_, N_, N_, N_, N_, N_, N_, N_, N_, N_, N_, N_, N_, N_, N_, N_, N_, N_, N_, N_, N_, N_, N_, N_, N_, N_, N_, N_, N_, N_, N_, N_, N_, N_, N_, Y_ u68, Y_ u69, Y_ u70, Y_ u71, Y_ u72, Y_ u73, Y_ u74, Y_ u75, Y_ u76, Y_ u77, Y_ u78, Y_ u79, Y_ u80] ∧ St w0 [b] w [(b, .cells (hsC zs2 ++ sp).toArray 88 (0, 0))]) ?_ ?_
     ·cases wb
      ·cases wp
       ·refine zq 148 ⟨rfl, rfl⟩ ?_
        refine zm ?_
        refine zm ?_
        refine zg ?_
        refine zf ?_
        refine zm ?_
        refine zg ?_
        refine zg ?_
        refine zf ?_
        refine zc (t100 (t40 (t8 []))) ?_
        refine c_iff rfl ?_
        refine wp_skip ?_
        exact ⟨_, rfl, ⟨_, _, _, _, _, _, _, _, _, _, _, _, _, rfl, H⟩⟩
       ·refine zq 148 ⟨rfl, rfl⟩ ?_
        refine zm ?_
        refine zm ?_
        refine zg ?_
        refine zf ?_
        refine zm ?_
        refine zg ?_
        refine zg ?_
        refine zf ?_
        refine zc (t100 (t40 (t8 []))) ?_
        refine c_iff rfl ?_
        refine wp_skip ?_
        exact ⟨_, rfl, ⟨_, _, _, _, _, _, _, _, _, _, _, _, _, rfl, H⟩⟩
      ·cases wp
       ·refine zq 148 ⟨rfl, rfl⟩ ?_
        refine zm ?_
        refine zm ?_
        refine zy ?_
        refine zm ?_
        refine zv ?_
        refine zm ?_
        refine zg ?_
        refine zg ?_
        refine zf ?_
        refine zc (t100 (t40 (t8 []))) ?_
        refine c_iff rfl ?_
        refine wp_skip ?_
        exact ⟨_, rfl, ⟨_, _, _, _, _, _, _, _, _, _, _, _, _, rfl, H⟩⟩
       ·refine zq 148 ⟨rfl, rfl⟩ ?_
        refine zm ?_
        refine zm ?_
        refine zy ?_
        refine zm ?_
        refine zv ?_
        refine zm ?_
        refine zy ?_
        refine zm ?_
        refine zy ?_
        refine s_val (r_eql rfl rfl) ?_
        refine zv ?_
        refine zc (t100 (t40 (t8 []))) ?_
        refine c_if rfl (fun h75 => ?_) (fun h75 => ?_)
        ·refine zq 148 ⟨rfl, rfl⟩ ?_
         refine zm ?_
         refine zm ?_
         refine zm ?_
         refine zm ?_
         refine s_call (r_call Try.call74 (ec rfl (ec rfl (ec rfl (ec rfl en))))) (pis_spec _ _ _ _ _ _ _ (by omega) (by omega) (by omega) (by omega) (by omega) (by omega) _ (H.at 0 rfl)) ?_
         rintro v w ⟨r, rfl, hr, HC⟩
         replace H := H.quiet HC
         refine zc (t100 (t40 (t8 []))) ?_
         refine c_ifb rfl (fun h80 => ?_) (fun h80 => ?_)
         ·refine wp_ret (x_thenRet (x_blockRet (x_thenRet (x_blockRet ?_))))
          refine zw (res0 rfl) ?_
          exact ⟨rfl, zs2, hsw.trans (hsw2.mono (by omega) (by omega) (by omega)), hou2.fin (hr h80), H⟩
         ·refine wp_skip ?_
          exact ⟨_, rfl, ⟨_, _, _, _, _, _, _, _, _, _, _, _, _, rfl, H⟩⟩
        ·refine wp_skip ?_
         exact ⟨_, rfl, ⟨_, _, _, _, _, _, _, _, _, _, _, _, _, rfl, H⟩⟩
     ·rintro l w ⟨u68, u69, u70, u71, u72, u73, u74, u75, u76, u77, u78, u79, u80, hl, H⟩
      obtain rfl := hl.trans (rfl : _ = t100 (t40 (t8 [])))
      clear hl
      refine c_cut (fun (l0 : List Value) (l : List Value) (w : World) => ∃ (u15 u81 u82 u83 u84 u85 u86 u87 u88 u89 u90 u91 u92 u93 u94 u95 u96 u97 u98 u99 u100 u101 u102 u103 u104 : Value) , l = ovr l0 [N_, Y_ (.int .i64 aa), N_, N_, N_, N_, N_, N_, N_, N_, N_, N_, N_, N_, N_, Y_ u15, N_, N_, N_, N_, N_, N_, N_, N_, N_, N_, N_, N_, N_, N_, N_, N_, N_, N_, N_, N_, N_, N_, N_, N_, N_, N_, N_, N_, N_, N_, N_, N_, N_, N_, N_, N_, N_, N_, N_, N_, N_, N_, N_, N_, N_, N_, N_, N_, N_, N_, N_, N_, N_, N_, N_, N_, N_, N_, N_, N_, N_, N_, N_, N_, N_, Y_ u81, Y_ u82, Y_ u83, Y_ u84, Y_ u85, Y_ u86, Y_ u87, Y_ u88, Y_ u89, Y_ u90, Y_ u91, Y_ u92, Y_ u93, Y_ u94, Y_ u95, Y_ u96, Y_ u97, Y_ u98, Y_ u99, Y_ u100, Y_ u101, Y_ u102, Y_ u103, Y_ u104] ∧ St w0 [b] w [(b, .cells (hsC zs2 ++ sp).toArray 88 (0, 0))]) ?_ ?_
      ·refine c_seq ?_
       refine d_begin (sz := 148) ⟨rfl, rfl⟩ (by kernel_rfl) H (H) rfl ?_
       intro w H
       refine zM 0 H ?_
       refine zd 1 rfl (by kernel_rfl) (fun _ _ _ h => h) H (r_gtr rfl rfl) rfl ?_
       refine d_part (fun h82 => ?_) (fun h82 => ?_)
       ·refine zM 2 H ?_
        refine zG 3 rfl rfl rfl (by kernel_rfl) (fun _ _ _ h => h) H (r_move rfl) rfl ?_
        refine zG 4 rfl rfl rfl (by kernel_rfl) (fun _ _ _ h => h) H (r_move rfl) rfl ?_
        refine zG 5 rfl rfl rfl (by kernel_rfl) (fun _ _ _ h => h) H (r_move rfl) rfl ?_
        refine zG 6 rfl rfl rfl (by kernel_rfl) (fun _ _ _ h => h) H (r_sub rfl rfl (wr (r := ((aa - 1 : Nat) : Int)))) rfl ?_
        refine zG 7 rfl rfl rfl (by kernel_rfl) (fun _ _ _ h => h) H (ziS qu85 qs88) rfl ?_
        refine d_takeG (i := 8) rfl (by kernel_rfl) (fun _ _ _ h => h) rfl rfl H (fun _ HS => r_loadn qg88 qs88 rfl (HS.at 0 rfl) (hs_ld zs2 sp (aa - 1) (by omega) (by omega)) (by first | exact (kC_length _) | exact (hC_length _) | exact rfl)) rfl ?_
        refine zG 9 rfl rfl rfl (by kernel_rfl) (fun _ _ _ h => h) H (r_move rfl) rfl ?_
        refine zG 10 rfl rfl rfl (by kernel_rfl) (fun _ _ _ h => h) H (r_move rfl) rfl ?_
        refine zG 11 rfl rfl rfl (by kernel_rfl) (fun _ _ _ h => h) H (ziS qu85 qs88) rfl ?_
        refine d_takeG (i := 12) rfl (by kernel_rfl) (fun _ _ _ h => h) rfl rfl H (fun _ HS => r_loadn qg88 qs88 rfl (HS.at 0 rfl) (hs_ld zs2 sp (p) (by omega) (by omega)) (by first | exact (kC_length _) | exact (hC_length _) | exact rfl)) rfl ?_
        refine zl1 13 ?_
        refine b_call rfl (go_some rfl rfl) (r_callv qc37 rfl (ec rfl (ec rfl en)) rfl) (punc2_spec _ _ _) rfl ?_
        rintro v w ⟨rfl, HC⟩
        replace H := H.quiet HC
        refine ⟨H, ?_⟩
        refine zG 14 rfl rfl rfl (by kernel_rfl) (fun _ _ _ h => h) H (r_lss rfl rfl) rfl ?_
        refine zG 15 rfl rfl rfl (by kernel_rfl) (fun _ _ _ h => h) H (r_notp rfl) rfl ?_
        refine zd 16 rfl (by kernel_rfl) (fun _ _ _ h => h) H (r_pickt rfl rfl) rfl ?_
        refine d_done (l' := [_,_,_,_,_,_,_,_,_,_,_,_,_,_,_,_,_,_,_,_,_,_,_,_,_,_,_,_,_,_,_,_,_,_,_,_,_,_,_,_,_,_,_,_,_,_,_,_,_,_,_,_,_,_,_,_,_,_,_,_,_,_,_,_,_,_,_,_,_,_,_,_,_,_,_,_,_,_,_,_,_,_,_,_,_,_,_,_,_,_,_,_,_,_,_,_,_,_,_,_,_,_,_,_,_,_,_,_,_,_,_,_,_,_,_,_,_,_,_,_,_,_,_,_,_,_,_,_,_,_,_,_,_,_,_,_,_,_,_,_,_,_,_,_,_,_,_,_]) (by kernel_rfl) rfl ?_
        refine x_thenNormal ?_
        refine c_if rfl (fun h97 => ?_) (fun h97 => ?_)
        ·exact absurd (cmpI_neg.2 (hah2 (by omega) p hap hpz)) h97
        ·refine wp_skip ?_
         exact ⟨_, rfl, ⟨_, _, _, _, _, _, _, _, _, _, _, _, _, _, _, _, _, _, _, _, _, _, _, _, _, rfl, H⟩⟩
       ·refine zM 2 H ?_
        refine zN 3 H ?_
        refine zN 4 H ?_
        refine zN 5 H ?_
        refine zN 6 H ?_
        refine zN 7 H ?_
        refine zN 8 H ?_
        refine zN 9 H ?_
        refine zN 10 H ?_
        refine zN 11 H ?_
        refine zN 12 H ?_
        refine zN 13 H ?_
        refine zN 14 H ?_
        refine zN 15 H ?_
        refine zd 16 rfl (by kernel_rfl) (fun _ _ _ h => h) H (r_pickf rfl rfl) rfl ?_
        refine d_done (l' := [_,_,_,_,_,_,_,_,_,_,_,_,_,_,_,_,_,_,_,_,_,_,_,_,_,_,_,_,_,_,_,_,_,_,_,_,_,_,_,_,_,_,_,_,_,_,_,_,_,_,_,_,_,_,_,_,_,_,_,_,_,_,_,_,_,_,_,_,_,_,_,_,_,_,_,_,_,_,_,_,_,_,_,_,_,_,_,_,_,_,_,_,_,_,_,_,_,_,_,_,_,_,_,_,_,_,_,_,_,_,_,_,_,_,_,_,_,_,_,_,_,_,_,_,_,_,_,_,_,_,_,_,_,_,_,_,_,_,_,_,_,_,_,_,_,_,_,_]) (by kernel_rfl) rfl ?_
        refine x_thenNormal ?_
        refine c_iff rfl ?_
        refine wp_skip ?_
        exact ⟨_, rfl, ⟨_, _, _, _, _, _, _, _, _, _, _, _, _, _, _, _, _, _, _, _, _, _, _, _, _, rfl, H⟩⟩
      ·rintro l w ⟨u15, u81, u82, u83, u84, u85, u86, u87, u88, u89, u90, u91, u92, u93, u94, u95, u96, u97, u98, u99, u100, u101, u102, u103, u104, hl, H⟩
       obtain rfl := hl.trans (rfl : _ = t100 (t40 (t8 [])))
       clear hl
       refine zq 148 ⟨rfl, rfl⟩ ?_
       refine zm ?_
       refine zm ?_
       refine zm ?_
       refine zm ?_
       refine zm ?_
       refine s_call (r_call Try.call76 (ec rfl (ec rfl (ec rfl (ec rfl (ec rfl en)))))) (part_spec _ _ _ _ _ _ _ _ (by omega) (by omega) (by omega) (by omega) (by omega) (by omega) _ H.owns0) ?_
       rintro v w ⟨m, r, zs3, rfl, hsw3, hpt, HC⟩
       replace H := St.call (F := [_]) (L := []) H HC
       have hlen3 := hsw3.length
       have hou3 := hou2.sw (by omega) (by omega) hsw3
       have hah3 := hah2.sw hsw3
       have hun3 := hun2.sw hsw3
       have hma := hpt.1
       have hmz := hpt.2.1
       refine zm ?_
       refine ze ?_
       refine ze ?_
       refine za ?_
       refine za ?_
       refine zc (t100 (t40 (t8 []))) ?_
       refine zq 148 ⟨rfl, rfl⟩ ?_
       refine zm ?_
       refine za ?_
       refine zc (t100 (t40 (t8 []))) ?_
       refine zq 148 ⟨rfl, rfl⟩ ?_
       refine zm ?_
       refine zm ?_
       refine s_val (r_sub rfl rfl (wr (r := ((m - aa : Nat) : Int)))) ?_
       refine zm ?_
       refine zm ?_
       refine s_val (r_sub rfl rfl (wr (r := ((zz - m : Nat) : Int)))) ?_
       refine za ?_
       refine za ?_
       refine zc (t100 (t40 (t8 []))) ?_
       refine zq 148 ⟨rfl, rfl⟩ ?_
       refine zm ?_
       refine s_val (r_quo rfl rfl (by omega) (quoI (by omega) (by omega) (by omega))) ?_
       refine za ?_
       refine zc (t100 (t40 (t8 []))) ?_
       refine zq 148 ⟨rfl, rfl⟩ ?_
       refine zm ?_
       refine zm ?_
       refine s_val (r_lss rfl rfl) ?_
       refine zc (t100 (t40 (t8 []))) ?_
       refine c_if rfl (fun h125 => ?_) (fun h125 => ?_)
       ·refine zq 148 ⟨rfl, rfl⟩ ?_
        refine zm ?_
        refine zm ?_
        refine s_val (r_geq rfl rfl) ?_
        refine za ?_
        refine zc (t100 (t40 (t8 []))) ?_
        refine zq 148 ⟨rfl, rfl⟩ ?_
        refine zm ?_
        refine zm ?_
        refine zm ?_
        refine zm ?_
        refine zm ?_
        refine s_call (r_call qc56 (ec rfl (ec rfl (ec rfl (ec rfl (ec rfl en)))))) (ih _ _ _ _ _ _ _ _ (by omega) (by omega) (by omega) (by omega) (by omega) (by omega) (by omega) hun3 (hah3.cut (by omega)) (by omega) _ H.owns0) ?_
        rintro v w ⟨rfl, zs4, hsw4, hs4, HC⟩
        replace H := St.call (F := [_]) (L := []) H HC
        have hsw4z := hsw4.mono (a' := aa) (b' := zz) (by omega) (by omega) (by omega)
        have hpt4 := hpt.swL hsw4
        have hou4 := hou3.sw (by omega) (by omega) hsw4z
        have hun4 := hun3.sw hsw4
        have hlen4 := hsw4.length
        have hsw4t := hsw.trans (((hsw2.trans hsw3).trans hsw4z).mono (a' := a) (b' := z) (by omega) (by omega) (by omega))
        refine zc (t100 (t40 (t8 []))) ?_
        refine c_region (n := 148) ⟨rfl, rfl⟩ ?_
        refine zm ?_
        refine s_val (r_add rfl rfl (wr (r := ((m + 1 : Nat) : Int)))) ?_
        refine za ?_
        refine zb (t100 (t40 (t8 []))) ?_
        refine x_blockNormal ?_
        exact ⟨(zz - (m + 1)), _, rfl, ⟨_, _, _, _, _, _, _, _, _, _, _, _, _, _, _, _, _, _, _, _, _, _, _, _, _, _, _, _, _, _, _, _, _, _, _, _, _, _, _, _, _, _, _, _, _, _, _, _, _, _, _, _, _, _, _, _, _, _, _, _, _, _, _, _, _, _, _, _, _, _, _, _, _, _, _, _, _, _, _, _, _, _, _, _, _, _, _, _, _, _, _, _, _, _, _, _, _, _, _, _, _, _, _, _, _, _, _, _, _, _, _, _, _, _, _, _, _, _, _, _, _, _, _, _, _, _, _, _, _, _, _, _, _, _, _, _, (m + 1), zz, cc2, _, _, zs4, rfl, by omega, by omega, by omega, hsw4t, (hou4.right hpt4 hs4), by omega, by omega, (Ahead.right hpt4 hun4 (by omega)), rfl, H⟩, by omega⟩
       ·refine zq 148 ⟨rfl, rfl⟩ ?_
        refine zm ?_
        refine zm ?_
        refine s_val (r_geq rfl rfl) ?_
        refine za ?_
        refine zc (t100 (t40 (t8 []))) ?_
        refine zq 148 ⟨rfl, rfl⟩ ?_
        refine zm ?_
        refine zm ?_
        refine s_val (r_add rfl rfl (wr (r := ((m + 1 : Nat) : Int)))) ?_
        refine zm ?_
        refine zm ?_
        refine zm ?_
        refine s_call (r_call qc56 (ec rfl (ec rfl (ec rfl (ec rfl (ec rfl en)))))) (ih _ _ _ _ _ _ _ _ (by omega) (by omega) (by omega) (by omega) (by omega) (by omega) (by omega) hun3 (Ahead.right hpt hun3 (by omega)) (by omega) _ H.owns0) ?_
        rintro v w ⟨rfl, zs4, hsw4, hs4, HC⟩
        replace H := St.call (F := [_]) (L := []) H HC
        have hsw4z := hsw4.mono (a' := aa) (b' := zz) (by omega) (by omega) (by omega)
        have hpt4 := hpt.swR hsw4
        have hou4 := hou3.sw (by omega) (by omega) hsw4z
        have hun4 := hun3.sw hsw4
        have hlen4 := hsw4.length
        have hsw4t := hsw.trans (((hsw2.trans hsw3).trans hsw4z).mono (a' := a) (b' := z) (by omega) (by omega) (by omega))
        refine zc (t100 (t40 (t8 []))) ?_
        refine c_region (n := 148) ⟨rfl, rfl⟩ ?_
        refine zm ?_
        refine za ?_
        refine zb (t100 (t40 (t8 []))) ?_
        refine x_blockNormal ?_
        exact ⟨(m - aa), _, rfl, ⟨_, _, _, _, _, _, _, _, _, _, _, _, _, _, _, _, _, _, _, _, _, _, _, _, _, _, _, _, _, _, _, _, _, _, _, _, _, _, _, _, _, _, _, _, _, _, _, _, _, _, _, _, _, _, _, _, _, _, _, _, _, _, _, _, _, _, _, _, _, _, _, _, _, _, _, _, _, _, _, _, _, _, _, _, _, _, _, _, _, _, _, _, _, _, _, _, _, _, _, _, _, _, _, _, _, _, _, _, _, _, _, _, _, _, _, _, _, _, _, _, _, _, _, _, _, _, _, _, _, _, _, _, _, _, _, _, aa, m, cc2, _, _, zs4, rfl, by omega, by omega, by omega, hsw4t, (hou4.left hpt4 hs4), by omega, by omega, ((hah3.sw hsw4z).cut (by omega)), rfl, H⟩, by omega⟩

theorem pdq_all : ∀ k, PdqUpTo k
 | 0 => fun _ _ _ _ _ _ _ _ _ _ _ _ _ _ _ _ _ hk => absurd hk (Nat.not_lt_zero _)
 | k + 1 => fun b n cap ys sp a z c hnl haz he hl hlim hc h17 hu hah hk w0 hown => pdq_step b n cap ys sp a z c hnl haz he hl hlim hc h17 hu hah k (pdq_all k) hk w0 hown

set_option maxHeartbeats 4000000 in
theorem sort_spec (b n cap : Nat) (ys : List Held) (sp : List Value) (hnl : n = ys.length) (hn : ys.length < 18) (hu : Unl Held.zero atK ys) (w0 : World) (hown : Go.Er.Own w0 [(b, .cells (hsC ys ++ sp).toArray 88 (0, 0))]) :
  Calls Try.prog 36 #[.slice (some ⟨b, 0, none⟩) n cap, .func (.func 37) #[] #[]] w0 fun e w => ∃ v, e = .returned v ∧ (v = .tuple #[] ∧ ∃ zs, zs.Perm ys ∧ Srt Held.zero atK 0 zs.length zs ∧ St w0 [b] w [(b, .cells (hsC zs ++ sp).toArray 88 (0, 0))]) := by
 have H : St w0 [b] w0 [(b, .cells (hsC ys ++ sp).toArray 88 (0, 0))] := hown.st
 refine c_enter (args := [.slice (some ⟨b, 0, none⟩) n cap, .func (.func 37) #[] #[]]) (l := t10 (t4 [])) Try.func36 Try.ntmps36 rfl rfl ?_
 refine zq 14 ⟨rfl, rfl⟩ ?_
 refine zm ?_
 refine s_val (r_lens qu85 (ec rfl en)) ?_
 refine za ?_
 refine zc (t10 (t4 [])) ?_
 refine c_region (n := 14) ⟨rfl, rfl⟩ ?_
 refine zm ?_
 refine zm ?_
 refine zm ?_
 refine s_val (r_conv qu3 qu102 rfl v6) ?_
 refine s_call (r_call qc57 (ec rfl en)) (len_spec _ (by omega) _) ?_
 rintro v w ⟨c, hlen, rfl, HC⟩
 replace H := H.quiet HC
 refine zm ?_
 refine s_call (r_call qc56 (ec rfl (ec rfl (ec rfl (ec rfl (ec rfl en)))))) (pdq_all _ _ _ _ _ _ 0 n c (by omega) (by omega) (by omega) (by omega) (by have := hlen.1; omega) (by have := hlen.2.1; omega) (by omega) hu Ahead.zero (Nat.lt_succ_self _) _ H.owns0) ?_
 rintro v w ⟨rfl, zs, hsw, hs, HC⟩
 replace H := St.call (F := [_]) (L := []) H HC
 refine zb (t10 (t4 [])) ?_
 refine e_end (res0 rfl) ⟨_, rfl, ?_⟩
 exact ⟨rfl, zs, hsw.perm, by rw [hsw.length, ← hnl]; exact hs, H⟩

end Go.Proofs.Ytobfnieebiakeaa

