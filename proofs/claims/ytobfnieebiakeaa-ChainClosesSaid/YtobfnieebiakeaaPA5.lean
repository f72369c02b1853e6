import Derived.Test.YtobfnieebiakeaaPM
import Derived.Test.YtobfnieebiakeaaPA3
import Derived.Test.YtobfnieebiakeaaPVx2
namespace Go.Proofs.Ytobfnieebiakeaa
open Go Go.Er

set_option maxHeartbeats 4000000 in
theorem app1_spec (ro : Nat) (b : Blk) (i : Nat) (a : Option Addr) (c : Nat) (xs : List UInt8) (h1 : 1 ≤ xs.length) (hi : i + xs.length ≤ 32) (w0 : World) (hrX : ∀ w L, St w0 [ro] w L → BRow w a xs) (hown : Go.Er.Own w0 [(ro, .cells (kC b).toArray 44 (0, 0))]) :
  Calls Try.prog 51 #[.int .i64 (i : Nat), .slice a xs.length c, .pointer (some ⟨ro, 0, none⟩)] w0 fun e w => ∃ v, e = .returned v ∧ (v = .tuple #[] ∧ St w0 [ro] w [(ro, .cells (kC (putAt b i xs)).toArray 44 (0, 0))]) := by
 have H : St w0 [ro] w0 [(ro, .cells (kC b).toArray 44 (0, 0))] := hown.st
 refine c_enter (args := [.int .i64 (i : Nat), .slice a xs.length c, .pointer (some ⟨ro, 0, none⟩)]) (l := t9 []) Try.func51 Try.ntmps51 rfl rfl ?_
 refine c_region (n := 9) ⟨rfl, rfl⟩ ?_
 refine zm ?_
 refine s_val (r_sliceAL (lo := i) qu44 qs5 rfl rfl rfl (by omega) (by rw [Nat.zero_add, Nat.mul_one]) rfl) ?_
 refine zm ?_
 refine s_any (m_copyS H 0 qu41 qs5 (ec rfl (ec rfl en)) ((hrX _ _ H).src _) (by omega) rfl (by rw [bC_length, kC_length]; omega) (put_splice b hi)) ?_
 rintro v w H
 replace H : St w0 [ro] w [_] := H
 refine zb (t9 []) ?_
 refine e_end (res0 rfl) ⟨_, rfl, ?_⟩
 exact ⟨rfl, H⟩

theorem app1_l (ro : Nat) (b : Blk) (i m : Nat) (ii : Int) (hii : ii = (i : Int)) (a : Option Addr) (c : Nat) (xs : List UInt8) (hm : m = xs.length) (h1 : 1 ≤ xs.length) (hi : i + xs.length ≤ 32) (w0 : World) (hrX : ∀ w L, St w0 [ro] w L → BRow w a xs) (hown : Go.Er.Own w0 [(ro, .cells (kC b).toArray 44 (0, 0))]) :
  Calls Try.prog 51 #[.int .i64 ii, .slice a m c, .pointer (some ⟨ro, 0, none⟩)] w0 fun e w => ∃ v, e = .returned v ∧ v = .tuple #[] ∧ St w0 [ro] w [(ro, .cells (kC (putAt b i xs)).toArray 44 (0, 0))] := by
 subst hm hii
 exact app1_spec ro b i a c xs h1 hi w0 hrX hown

set_option maxHeartbeats 4000000 in
theorem runs_spec (ro : Nat) (b0 : Blk) (a : Option Addr) (c : Nat) (ds : List UInt8) (hc : ds.length ≤ c) (hl : ds.length ≤ 1000000) (w0 : World) (hrX : ∀ w L, St w0 [ro] w L → BRow w a ds) (hown : Go.Er.Own w0 [(ro, .cells (kC b0).toArray 44 (0, 0))]) :
  Calls Try.prog 50 #[.slice a ds.length c, (.func (.func 51) #[] #[.pointer (some ⟨ro, 0, none⟩)])] w0 fun e w => ∃ v, e = .returned v ∧ ((∃ b2, (runsD ds).map (putAll b0) = some b2 ∧ v = .bool true ∧ St w0 [ro] w [(ro, .cells (kC b2).toArray 44 (0, 0))]) ∨ (runsD ds = none ∧ v = .bool false ∧ ∃ b2 : Blk, St w0 [ro] w [(ro, .cells (kC b2).toArray 44 (0, 0))])) := by
 have H : St w0 [ro] w0 [(ro, .cells (kC b0).toArray 44 (0, 0))] := hown.st
 refine c_enter (args := [.slice a ds.length c, (.func (.func 51) #[] #[.pointer (some ⟨ro, 0, none⟩)])]) (l := t60 []) Try.func50 Try.ntmps50 rfl rfl ?_
 refine zq 60 ⟨rfl, rfl⟩ ?_
 refine za ?_
 refine zc (t60 []) ?_
 refine c_seq ?_
 refine zq 60 ⟨rfl, rfl⟩ ?_
 refine zm ?_
 refine s_val (r_lens qu41 (ec rfl en)) ?_
 refine s_val (r_gtr rfl rfl) ?_
 refine zc (t60 []) ?_
 refine c_if rfl (fun h10 => ?_) (fun h10 => ?_)
 ·refine zq 60 ⟨rfl, rfl⟩ ?_
  refine za ?_
  refine zc (t60 []) ?_
  refine wp_ret (x_thenRet ?_)
  refine zw (res1 rfl rfl) ?_
  exact .inr ⟨if_pos (by omega), rfl, _, H⟩
 ·have hl20 : ds.length ≤ 20 := by omega
  refine wp_skip ?_
  refine x_thenNormal ?_
  refine zq 60 ⟨rfl, rfl⟩ ?_
  refine za ?_
  refine zc (t60 []) ?_
  refine c_seq ?_
  refine wp_block ?_
  refine c_loop (fun (l0 : List Value) (t : Nat) (l : List Value) (w : World) => ∃ (u4 u6 u7 u11 u12 u13 u14 u15 u16 u17 u18 u19 u20 u21 u22 u23 u24 u25 u26 u27 u28 u29 u30 u31 u32 u33 u34 u35 u36 u37 u38 u39 u40 u41 u42 u43 u44 u45 u46 u47 u48 u49 u50 u51 u52 u53 u54 u55 u56 u57 u58 u59 : Value) (ar : Option Addr) (rs : List UInt8) (cr : Nat) (b : Blk) (nx : Nat), l = ovr l0 [Y_ (.slice ar rs.length cr), N_, N_, N_, Y_ u4, Y_ (.int .i64 (nx : Int)), Y_ u6, Y_ u7, N_, N_, N_, Y_ u11, Y_ u12, Y_ u13, Y_ u14, Y_ u15, Y_ u16, Y_ u17, Y_ u18, Y_ u19, Y_ u20, Y_ u21, Y_ u22, Y_ u23, Y_ u24, Y_ u25, Y_ u26, Y_ u27, Y_ u28, Y_ u29, Y_ u30, Y_ u31, Y_ u32, Y_ u33, Y_ u34, Y_ u35, Y_ u36, Y_ u37, Y_ u38, Y_ u39, Y_ u40, Y_ u41, Y_ u42, Y_ u43, Y_ u44, Y_ u45, Y_ u46, Y_ u47, Y_ u48, Y_ u49, Y_ u50, Y_ u51, Y_ u52, Y_ u53, Y_ u54, Y_ u55, Y_ u56, Y_ u57, Y_ u58, Y_ u59] ∧ t = rs.length ∧ (∀ w L, St w0 [ro] w L → BRow w ar rs) ∧ rs.length ≤ cr ∧ rs.length ≤ 20 ∧ nx ≤ 33 ∧ (runsF ds.length 0 ds).map (putAll b0) = (runsF rs.length nx rs).map (putAll b) ∧ St w0 [ro] w [(ro, .cells (kC b).toArray 44 (0, 0))]) (fun (t : Nat) => t) ds.length ⟨_, _, _, _, _, _, _, _, _, _, _, _, _, _, _, _, _, _, _, _, _, _, _, _, _, _, _, _, _, _, _, _, _, _, _, _, _, _, _, _, _, _, _, _, _, _, _, _, _, _, _, _, a, ds, c, b0, 0, rfl, rfl, hrX, hc, hl20, (Nat.zero_le _), rfl, H⟩ ?_
  intro t l w ⟨u4, u6, u7, u11, u12, u13, u14, u15, u16, u17, u18, u19, u20, u21, u22, u23, u24, u25, u26, u27, u28, u29, u30, u31, u32, u33, u34, u35, u36, u37, u38, u39, u40, u41, u42, u43, u44, u45, u46, u47, u48, u49, u50, u51, u52, u53, u54, u55, u56, u57, u58, u59, ar, rs, cr, b, nx, hl, ht, hK, hrc, hrl, hnx, hI, H⟩
  obtain rfl := hl.trans (rfl : _ = t60 [])
  clear hl
  refine c_seq ?_
  refine zq 60 ⟨rfl, rfl⟩ ?_
  refine zm ?_
  refine s_val (r_lens qu41 (ec rfl en)) ?_
  refine s_val (r_gtr rfl rfl) ?_
  refine zc (t60 []) ?_
  refine c_if rfl (fun h13 => ?_) (fun h13 => ?_)
  ·obtain ⟨bb, off, _,_,_,_, rfl, _,_⟩ := hK _ _ H (by omega)
   refine wp_skip ?_
   refine x_thenNormal ?_
   refine wp_block ?_
   refine c_seq ?_
   refine zq 60 ⟨rfl, rfl⟩ ?_
   refine zm ?_
   refine s_val (r_lens qu41 (ec rfl en)) ?_
   refine s_val (r_lss rfl rfl) ?_
   refine zc (t60 []) ?_
   refine c_if rfl (fun h16 => ?_) (fun h16 => ?_)
   ·refine zq 60 ⟨rfl, rfl⟩ ?_
    refine za ?_
    refine zc (t60 []) ?_
    refine wp_ret (x_thenRet (x_blockRet (x_thenRet (x_blockRet (x_thenRet ?_)))))
    refine zw (res1 rfl rfl) ?_
    have hz : runsF rs.length nx rs = none := runs_one (by omega) _
    rw [hz] at hI
    exact .inr ⟨runsD_none hl20 hI, rfl, _, H⟩
   ·refine wp_skip ?_
    refine x_thenNormal ?_
    refine c_seq ?_
    refine d_begin (sz := 60) ⟨rfl, rfl⟩ (by kernel_rfl) H (H) rfl ?_
    intro w H
    refine zM 0 H ?_
    refine zd 1 rfl (by kernel_rfl) (fun _ _ _ h => h) H (ziS qu41 qs5) rfl ?_
    refine zdh 2 rfl (by kernel_rfl) (fun _ _ _ h => h) H (fun HS => r_loadB qg5 rfl (hK _ _ HS) (i := 0) (by omega) (by omega)) rfl ?_
    have hlt := (rs.getD 0 0).toNat_lt
    refine zd 3 rfl (by kernel_rfl) (fun _ _ _ h => h) H (r_conv qu5 qu3 rfl w6) rfl ?_
    obtain ⟨aa, haa⟩ : ∃ j : Nat, j = (rs.getD 0 0).toNat := ⟨_, rfl⟩
    rw [← haa] at hlt ⊢
    refine zM 4 H ?_
    refine zd 5 rfl (by kernel_rfl) (fun _ _ _ h => h) H (ziS qu41 qs5) rfl ?_
    refine zdh 6 rfl (by kernel_rfl) (fun _ _ _ h => h) H (fun HS => r_loadB qg5 rfl (hK _ _ HS) (i := 1) (by omega) (by omega)) rfl ?_
    have hlt2 := (rs.getD 1 0).toNat_lt
    refine zd 7 rfl (by kernel_rfl) (fun _ _ _ h => h) H (r_conv qu5 qu3 rfl w6) rfl ?_
    obtain ⟨nn, hnn⟩ : ∃ j : Nat, j = (rs.getD 1 0).toNat := ⟨_, rfl⟩
    rw [← hnn] at hlt2 ⊢
    refine zd 8 rfl (by kernel_rfl) (fun _ _ _ h => h) H (r_assign rfl) rfl ?_
    refine zd 9 rfl (by kernel_rfl) (fun _ _ _ h => h) H (r_assign rfl) rfl ?_
    refine zz (t60 []) ?_
    refine x_thenNormal ?_
    refine c_seq ?_
    refine zq 60 ⟨rfl, rfl⟩ ?_
    refine zm ?_
    refine s_test (r_lss rfl rfl) (fun h26 => ?_) (fun h26 => ?_)
    ·refine zm ?_
     refine zg ?_
     refine zg ?_
     refine zg ?_
     refine zg ?_
     refine zg ?_
     refine zv ?_
     refine zm ?_
     refine zg ?_
     refine zg ?_
     refine zg ?_
     refine zv ?_
     refine zm ?_
     refine zg ?_
     refine zg ?_
     refine zg ?_
     refine zg ?_
     refine zv ?_
     refine zc (t60 []) ?_
     refine c_ift rfl ?_
     refine zq 60 ⟨rfl, rfl⟩ ?_
     refine za ?_
     refine zc (t60 []) ?_
     refine wp_ret (x_thenRet (x_blockRet (x_thenRet (x_blockRet (x_thenRet ?_)))))
     refine zw (res1 rfl rfl) ?_
     have hz : runsF rs.length nx rs = none := runs_bad (by omega) haa hnn (by omega)
     rw [hz] at hI
     exact .inr ⟨runsD_none hl20 hI, rfl, _, H⟩
    ·refine zm ?_
     refine zy ?_
     refine zm ?_
     refine zy ?_
     refine zm ?_
     refine zy ?_
     refine s_val (r_lens qu41 (ec rfl en)) ?_
     refine zy ?_
     refine zk ?_
     refine zy ?_
     refine s_test (r_gtr rfl rfl) (fun h32 => ?_) (fun h32 => ?_)
     ·refine zf ?_
      refine zm ?_
      refine zg ?_
      refine zg ?_
      refine zg ?_
      refine zv ?_
      refine zm ?_
      refine zg ?_
      refine zg ?_
      refine zg ?_
      refine zg ?_
      refine zv ?_
      refine zc (t60 []) ?_
      refine c_ift rfl ?_
      refine zq 60 ⟨rfl, rfl⟩ ?_
      refine za ?_
      refine zc (t60 []) ?_
      refine wp_ret (x_thenRet (x_blockRet (x_thenRet (x_blockRet (x_thenRet ?_)))))
      refine zw (res1 rfl rfl) ?_
      have hz : runsF rs.length nx rs = none := runs_bad (by omega) haa hnn (by omega)
      rw [hz] at hI
      exact .inr ⟨runsD_none hl20 hI, rfl, _, H⟩
     ·refine zf ?_
      refine zm ?_
      refine zy ?_
      refine zm ?_
      refine zy ?_
      refine zm ?_
      refine zy ?_
      refine s_test (r_lss rfl rfl) (fun h37 => ?_) (fun h37 => ?_)
      ·refine zf ?_
       refine zm ?_
       refine zg ?_
       refine zg ?_
       refine zg ?_
       refine zg ?_
       refine zv ?_
       refine zc (t60 []) ?_
       refine c_ift rfl ?_
       refine zq 60 ⟨rfl, rfl⟩ ?_
       refine za ?_
       refine zc (t60 []) ?_
       refine wp_ret (x_thenRet (x_blockRet (x_thenRet (x_blockRet (x_thenRet ?_)))))
       refine zw (res1 rfl rfl) ?_
       have hz : runsF rs.length nx rs = none := runs_bad (by omega) haa hnn (by omega)
       rw [hz] at hI
       exact .inr ⟨runsD_none hl20 hI, rfl, _, H⟩
      ·refine zf ?_
       refine zm ?_
       refine zy ?_
       refine zm ?_
       refine zy ?_
       refine zm ?_
       refine zy ?_
       refine zj ?_
       refine zy ?_
       refine s_test (r_gtr rfl rfl) (fun h43 => ?_) (fun h43 => ?_)
       ·refine zf ?_
        refine zc (t60 []) ?_
        refine c_ift rfl ?_
        refine zq 60 ⟨rfl, rfl⟩ ?_
        refine za ?_
        refine zc (t60 []) ?_
        refine wp_ret (x_thenRet (x_blockRet (x_thenRet (x_blockRet (x_thenRet ?_)))))
        refine zw (res1 rfl rfl) ?_
        have hz : runsF rs.length nx rs = none := runs_bad (by omega) haa hnn (by omega)
        rw [hz] at hI
        exact .inr ⟨runsD_none hl20 hI, rfl, _, H⟩
       ·refine zf ?_
        refine zc (t60 []) ?_
        refine c_iff rfl ?_
        refine wp_skip ?_
        refine x_thenNormal ?_
        refine zq 60 ⟨rfl, rfl⟩ ?_
        refine zm ?_
        refine zm ?_
        refine zm ?_
        refine zm ?_
        refine zj ?_
        refine s_val (r_sliceLHe (lo := 2) (hi := 2 + nn) (n' := ((rs.drop 2).take nn).length) qu41 qs5 rfl rfl rfl rfl rfl (by omega) (by omega) rfl (by rw [List.length_take, List.length_drop]; omega) rfl) ?_
        have htl : ((rs.drop 2).take nn).length = nn := by rw [List.length_take, List.length_drop]; omega
        refine s_call (r_callv Try.call51 rfl (ec rfl (ec rfl en)) rfl) (app1_l ro b aa _ _ rfl _ _ ((rs.drop 2).take nn) rfl (by omega) (by omega) _ (fun w2 L2 h2 => (hK _ _ (St.call (F := [_]) (L := []) H h2)).cut (by omega) (by omega)) (H.ownsM (List.Sublist.refl _))) ?_
        rintro v w ⟨rfl, HC⟩
        replace H : St w0 [ro] w [_] := St.call (F := [_]) (L := []) H HC
        have hI2 := hI.trans (runs_put (by omega) haa hnn (by omega) (by omega) (by omega) (by omega) b)
        refine zc (t60 []) ?_
        refine c_region (n := 60) ⟨rfl, rfl⟩ ?_
        refine zm ?_
        refine zm ?_
        refine zj ?_
        refine s_val (r_sliceLe (lo := 2 + nn) (n' := (rs.drop (2 + nn)).length) qu41 qs5 rfl rfl rfl (by omega) rfl (by rw [List.length_drop]) rfl) ?_
        refine zm ?_
        refine zm ?_
        refine zj ?_
        refine zj ?_
        refine za ?_
        refine za ?_
        refine zb (t60 []) ?_
        refine x_blockNormal ?_
        exact ⟨(rs.drop (2 + nn)).length, _, rfl, ⟨_, _, _, _, _, _, _, _, _, _, _, _, _, _, _, _, _, _, _, _, _, _, _, _, _, _, _, _, _, _, _, _, _, _, _, _, _, _, _, _, _, _, _, _, _, _, _, _, _, _, _, _, _, rs.drop (2 + nn), _, _, aa + nn + 1, rfl, rfl, (fun w L h => brow_drop (hK w L h) hrc (2 + nn)), (by rw [List.length_drop]; omega), (by rw [List.length_drop]; omega), (by omega), hI2, H⟩, (by rw [List.length_drop]; omega)⟩
  ·refine wp_exit (x_thenExit (x_thenExit (x_blockHit ?_)))
   refine x_thenNormal ?_
   refine zq 60 ⟨rfl, rfl⟩ ?_
   refine za ?_
   refine zc (t60 []) ?_
   refine wp_ret ?_
   refine zw (res1 rfl rfl) ?_
   have hrs : rs = [] := List.length_eq_zero_iff.1 (by omega)
   subst hrs
   rw [runs_nil] at hI
   exact .inl ⟨b, runsD_some hl20 hI, rfl, H⟩

set_option maxHeartbeats 4000000 in
theorem apply_spec (b0 : Blk) (a : Option Addr) (c : Nat) (ds : List UInt8) (hc : ds.length ≤ c) (hl : ds.length ≤ 1000000) (w0 : World) (hr : BRow w0 a ds) :
  Calls Try.prog 32 #[.agg (kC b0).toArray, .slice a ds.length c] w0 fun e w => ∃ v, e = .returned v ∧ (v = .tuple #[.agg (kC ((applyD b0 ds).getD (By.zero 32))).toArray, .int .i64 (if applyD b0 ds = none then 3 else 0)] ∧ St w0 [] w []) := by
 have H := St.refl w0
 refine c_enter (args := [.agg (kC b0).toArray, .slice a ds.length c]) (l := t10 (t4 [])) Try.func32 Try.ntmps32 rfl rfl ?_
 refine zq 14 ⟨rfl, rfl⟩ ?_
 refine s_new (m_box (cs := (kC b0)) H rfl rfl) ?_
 intro w b2 H
 refine s_new (zA (kC (By.zero 32)) H qo44) ?_
 intro w b4 H
 refine za ?_
 refine zc (t10 (t4 [])) ?_
 refine zq 14 ⟨rfl, rfl⟩ ?_
 refine s_val (zo qg44 qs44 (H.at 1 rfl)) ?_
 refine s_new (zA (kC (By.zero 32)) H qo44) ?_
 intro w b6 H
 refine s_st (zs H 0 32 qs44) (L' := (_ :: _ :: _ :: _)) rfl ?_
 intro w H
 refine zc (t10 (t4 [])) ?_
 refine c_seq ?_
 refine zq 14 ⟨rfl, rfl⟩ ?_
 refine zm ?_
 refine s_val (r_makeFunc en (ec rfl en)) ?_
 refine s_call (r_call Try.call50 (ec rfl (ec rfl en))) (runs_spec b6 b0 a c ds hc hl _ (fun w2 L2 h2 => hr.st ((St.call (F := [_]) H h2).sub (List.nil_sublist _))) (H.ownsM (.cons_cons _ (List.nil_sublist _)))) ?_
 rintro v w (⟨b2, hrd, rfl, HC⟩ | ⟨hrd, rfl, b2, HC⟩)
 ·replace H : St w0 [] w (_ :: _ :: _ :: []) := St.call (F := [_]) H HC
  refine s_val (r_not rfl) ?_
  refine zc (t10 (t4 [])) ?_
  refine c_iff rfl ?_
  refine wp_skip ?_
  refine x_thenNormal ?_
  refine zq 14 ⟨rfl, rfl⟩ ?_
  refine s_val (zo qg44 qs44 (H.at 0 rfl)) ?_
  refine s_st (zs H 1 32 qs44) (L' := (_ :: _ :: _ :: _)) rfl ?_
  intro w H
  refine za ?_
  refine zc (t10 (t4 [])) ?_
  refine wp_ret ?_
  refine zw (rc_two rfl (ro qg44 qs44 (H.at 1 rfl)) (rc_tmp rfl)) ?_
  have e : applyD b0 ds = some b2 := hrd
  rw [e, if_neg (fun h => nomatch h)]
  exact ⟨rfl, (H.sub (List.nil_sublist _))⟩
 ·replace H : St w0 [] w (_ :: _ :: _ :: []) := St.call (F := [_]) H HC
  refine s_val (r_not rfl) ?_
  refine zc (t10 (t4 [])) ?_
  refine c_ift rfl ?_
  refine zq 14 ⟨rfl, rfl⟩ ?_
  refine s_val (r_buildA (pl := []) (zs := kC (By.zero 32)) (out := kC (By.zero 32)) qu44 qs5 qo44 pn (by intro p hp; simp at hp) rfl) ?_
  refine s_st (zs H 1 32 qs44) (L' := (_ :: _ :: _ :: _)) rfl ?_
  intro w H
  refine za ?_
  refine zc (t10 (t4 [])) ?_
  refine wp_ret (x_thenRet ?_)
  refine zw (rc_two rfl (ro qg44 qs44 (H.at 1 rfl)) (rc_tmp rfl)) ?_
  have e : applyD b0 ds = none := by unfold applyD; rw [hrd]; rfl
  rw [e, if_pos rfl]
  exact ⟨rfl, (H.sub (List.nil_sublist _))⟩

set_option maxHeartbeats 4000000 in
theorem shown_spec (y : Ce) (hrt : rightC (ceP y)) (hk : y.kind = 1 ∨ y.kind = 3) (hr0 : 0 ≤ y.ref) (bt : Nat) (xs : List Held) (NT : List (Nat × Obj)) (hxl : xs.length ≤ 100000) (hv : Valid xs) (w0 : World) (hy : BRow w0 y.body.a y.body.b) (hT : TreeN 90 88 bt (.iface 49 (.agg litC.toArray)) xs NT) (hown : Go.Er.Own w0 NT) :
  Calls Try.prog 31 #[(.iface 49 (.agg litC.toArray)), .pointer (some ⟨bt, 0, none⟩), .agg (ceC y).toArray] w0 fun e w => ∃ v, e = .returned v ∧ (∃ b2, v = .slice (some ⟨b2, 0, none⟩) (shownC (keyH xs) (ceP y)).length (shownC (keyH xs) (ceP y)).length ∧ St w0 [] w [(b2, .cells (bC (shownC (keyH xs) (ceP y))).toArray 5 (0, 0))]) := by
 have H := St.refl w0
 refine c_enter (args := [(.iface 49 (.agg litC.toArray)), .pointer (some ⟨bt, 0, none⟩), .agg (ceC y).toArray]) (l := t30 (t1 [])) Try.func31 Try.ntmps31 rfl rfl ?_
 refine zq 31 ⟨rfl, rfl⟩ ?_
 refine s_new (m_box (cs := (ceC y)) H rfl rfl) ?_
 intro w b5 H
 refine za ?_
 refine zc (t30 (t1 [])) ?_
 refine zq 31 ⟨rfl, rfl⟩ ?_
 refine zm ?_
 refine zR 1 qu43 qs28 ?_
 refine s_val (r_load1 qg28 rfl (H.at 0 rfl) (rfl : _ = some (Value.int .u64 y.num))) ?_
 obtain ⟨q1, q2⟩ : 1 ≤ y.num ∧ y.num ≤ 65535 := ⟨hrt.2.2.1, hrt.2.2.2.1⟩
 refine s_call (r_call qc16 (ec rfl en)) (leaf_spec _ _) ?_
 rintro v w ⟨rfl, HC⟩
 replace H := H.quiet HC
 rw [show lf y.num = 2 * y.num from lf_right hrt]
 refine s_call (r_call Try.call21 (ec rfl (ec rfl en))) (key_spec bt (.iface 49 (.agg litC.toArray)) xs NT hxl hv (2 * y.num) (by omega) litL litR (splits_lit litC) _ hT (hown.stM (H.sub (List.nil_sublist _)))) ?_
 rintro v w ⟨k, ok, hkr, rfl, HC⟩
 replace H := H.quiet HC
 obtain ⟨rfl, _⟩ := keyH_of hv hkr
 refine zm ?_
 refine ze ?_
 refine ze ?_
 refine s_new (zA (kC (By.zero 32)) H qo24) ?_
 intro w b7 H
 refine s_st (zs H 0 32 qs24) (L' := (_ :: _ :: _)) rfl ?_
 intro w H
 refine za ?_
 refine zc (t30 (t1 [])) ?_
 refine zq 31 ⟨rfl, rfl⟩ ?_
 refine zR 1 qu43 qs28 ?_
 refine s_val (r_load1 qg28 rfl (H.at 1 rfl) (rfl : _ = some (Value.int .u64 y.num))) ?_
 refine za ?_
 refine zc (t30 (t1 [])) ?_
 refine c_seq ?_
 refine zq 31 ⟨rfl, rfl⟩ ?_
 refine zR 0 qu43 qs3 ?_
 refine s_val (r_load1 qg3 rfl (H.at 1 rfl) (rfl : _ = some (Value.int .i64 y.kind))) ?_
 refine s_val (r_eql rfl rfl) ?_
 refine zc (t30 (t1 [])) ?_
 refine c_if rfl (fun h22 => ?_) (fun h22 => ?_)
 ·refine c_region (n := 31) ⟨rfl, rfl⟩ ?_
  refine s_val (zp qg43 qs43 (H.at 1 rfl) (ceC_td _)) ?_
  have hrf := (right_full (c := ceP y) hrt h22).2
  have hrf2 : y.ref ≤ 1 := hrf
  refine s_call (r_call Try.call24 (ec rfl en)) (nonce_spec y hr0 (by omega) (by omega) (by omega) _) ?_
  rintro v w ⟨rfl, HC⟩
  replace H := H.quiet HC
  refine za ?_
  refine zc (t30 (t1 [])) ?_
  refine zq 31 ⟨rfl, rfl⟩ ?_
  refine zm ?_
  refine s_val (zo qg24 qs24 (H.at 0 rfl)) ?_
  refine zm ?_
  refine zR 10 qu43 qs41 ?_
  refine zL qg41 (H.at 1 rfl) ?_
  have hbl : y.body.b.length ≤ 32 := right_body (c := ceP y) hrt hk
  have hsl : (xorB (padB (keyH xs (2 * y.num)) (y.num + y.ref * 4294967296)).1 y.body.b).length = y.body.b.length := xorB_length (by rw [(padB _ _).2]; exact hbl)
  refine s_call (r_call Try.call49 (ec rfl (ec rfl (ec rfl (ec rfl en))))) (hide_spec (keyH xs (2 * y.num)) (y.num + y.ref * 4294967296) _ _ y.body.b (by omega) (by omega) hbl _ (hy.st (H.sub (List.nil_sublist _)))) ?_
  rintro v w ⟨b2, rfl, HC⟩
  replace H := H.call0 HC
  refine za ?_
  refine zc (t30 (t1 [])) ?_
  refine wp_ret ?_
  refine zw (res1 rfl rfl) ?_
  have es : shownC (keyH xs) (ceP y) = xorB (padB (keyH xs (2 * y.num)) (y.num + y.ref * 4294967296)).1 y.body.b := by
   unfold shownC
   rw [show (if (ceP y).kind = 1 then (ceP y).num + (ceP y).ref * 4294967296 else (ceP y).num) = (y.num + y.ref * 4294967296) from if_pos h22]
   rfl
  rw [es, hsl]
  exact ⟨b2, rfl, H.sub (.cons_cons _ (List.nil_sublist _))⟩
 ·refine wp_skip ?_
  refine x_thenNormal ?_
  refine zq 31 ⟨rfl, rfl⟩ ?_
  refine zm ?_
  refine s_val (zo qg24 qs24 (H.at 0 rfl)) ?_
  refine zm ?_
  refine zR 10 qu43 qs41 ?_
  refine zL qg41 (H.at 1 rfl) ?_
  have hbl : y.body.b.length ≤ 32 := right_body (c := ceP y) hrt hk
  have hsl : (xorB (padB (keyH xs (2 * y.num)) y.num).1 y.body.b).length = y.body.b.length := xorB_length (by rw [(padB _ _).2]; exact hbl)
  refine s_call (r_call Try.call49 (ec rfl (ec rfl (ec rfl (ec rfl en))))) (hide_spec (keyH xs (2 * y.num)) y.num _ _ y.body.b (by omega) (by omega) hbl _ (hy.st (H.sub (List.nil_sublist _)))) ?_
  rintro v w ⟨b2, rfl, HC⟩
  replace H := H.call0 HC
  refine za ?_
  refine zc (t30 (t1 [])) ?_
  refine wp_ret ?_
  refine zw (res1 rfl rfl) ?_
  have es : shownC (keyH xs) (ceP y) = xorB (padB (keyH xs (2 * y.num)) y.num).1 y.body.b := by
   unfold shownC
   rw [show (if (ceP y).kind = 1 then (ceP y).num + (ceP y).ref * 4294967296 else (ceP y).num) = y.num from if_neg h22]
   rfl
  rw [es, hsl]
  exact ⟨b2, rfl, H.sub (.cons_cons _ (List.nil_sublist _))⟩

end Go.Proofs.Ytobfnieebiakeaa

