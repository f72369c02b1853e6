import Derived.Test.YtobfnieebiakeaaGreatPM
import Derived.Test.YtobfnieebiakeaaGreatPF2
import Derived.Test.YtobfnieebiakeaaGreatPF3
import Derived.Test.YtobfnieebiakeaaGreatPA8
namespace Go.Proofs.YtobfnieebiakeaaGreat
open Go Go.Er

set_option maxHeartbeats 4000000 in
theorem read23_spec (a : Option Addr) (c : Nat) (cl : List Ce) (n : Int) (hl : cl.length ≤ 1000000) (ka : Option Addr) (kc : Nat) (ks : List Kn) (hkl : ks.length ≤ 1000000) (xs : List Held) (hK : KsA xs cl ks) (hrf : ∀ y ∈ cl, 0 ≤ y.ref) (w0 : World) (hr : RRow ceC w0 a cl) (hb : ∀ y ∈ cl, BRow w0 y.body.a y.body.b) (hk : RRow knC w0 ka ks) :
  Calls Tryz.prog 10 #[.slice a cl.length c, .slice ka ks.length kc, .int .u64 n] w0 fun e w => ∃ v, e = .returned v ∧ (v = .tuple #[.agg (kC (readF (findP (cl.map ceP)) (hasH xs) (keyH xs) n).1).toArray, .int .i64 (readF (findP (cl.map ceP)) (hasH xs) (keyH xs) n).2] ∧ St w0 [] w []) := by
 have H := St.refl w0
 refine c_enter (args := [.slice a cl.length c, .slice ka ks.length kc, .int .u64 n]) (l := t80 (t3 [])) Tryz.func10 Tryz.ntmps10 rfl rfl ?_
 refine zq 83 ⟨rfl, rfl⟩ ?_
 refine s_new (zA (kC (By.zero 32)) H qo35) ?_
 intro w b6 H
 refine za ?_
 refine zc (t80 (t3 [])) ?_
 refine zq 83 ⟨rfl, rfl⟩ ?_
 refine zm ?_
 refine zm ?_
 refine zm ?_
 refine s_call (r_call Tryz.call30 (ec rfl (ec rfl (ec rfl en)))) (way23_spec a c cl n hl ka kc ks hkl xs hK _ (hr.st (H.sub (List.nil_sublist _))) (fun y hy => (hb y hy).st (H.sub (List.nil_sublist _))) (hk.st (H.sub (List.nil_sublist _)))) ?_
 rintro v w ⟨ys, e, a2, c2, N, rfl, hw, hY, hR, HC⟩
 replace H : St w0 [] w (_ :: N) := (H.call0 HC).perm (List.perm_append_comm (l₁ := [_]) (l₂ := N))
 refine zm ?_
 refine ze ?_
 refine ze ?_
 refine za ?_
 refine za ?_
 refine zc (t80 (t3 [])) ?_
 refine c_seq ?_
 refine zq 83 ⟨rfl, rfl⟩ ?_
 refine zm ?_
 refine s_val (r_neq rfl rfl) ?_
 refine zc (t80 (t3 [])) ?_
 refine c_if rfl (fun h25 => ?_) (fun h25 => ?_)
 ·refine zq 83 ⟨rfl, rfl⟩ ?_
  refine s_val (r_buildA (pl := []) (zs := kC (By.zero 32)) (out := kC (By.zero 32)) qu35 qs5 qo35 pn (by intro p hp; simp at hp) rfl) ?_
  refine zm ?_
  refine s_st (zs H 0 32 qs35) (L' := (_ :: _)) rfl ?_
  intro w H
  refine za ?_
  refine zc (t80 (t3 [])) ?_
  refine wp_ret (x_thenRet ?_)
  refine zw (rc_two rfl (ro qg35 qs35 (H.at 0 rfl)) (rc_tmp rfl)) ?_
  rw [readF_bad hw h25]
  exact ⟨rfl, (H.sub (List.nil_sublist _))⟩
 ·have he0 : e = 0 := Decidable.not_not.1 h25
  have hyl : ys.length ≤ 5 := by have h := way_len (g := (findP (cl.map ceP))) (has := (hasH xs)) 5 0 n; rw [hw, List.length_map] at h; exact h
  refine wp_skip ?_
  refine x_thenNormal ?_
  refine zq 83 ⟨rfl, rfl⟩ ?_
  refine s_val (r_buildA (pl := []) (zs := kC (By.zero 32)) (out := kC (By.zero 32)) qu35 qs5 qo35 pn (by intro p hp; simp at hp) rfl) ?_
  refine s_new (zA (kC (By.zero 32)) H qo35) ?_
  intro w b10 H
  refine s_st (zs H 0 32 qs35) (L' := (_ :: _ :: _)) rfl ?_
  intro w H
  refine zc (t80 (t3 [])) ?_
  refine c_seq ?_
  refine zq 83 ⟨rfl, rfl⟩ ?_
  refine zm ?_
  refine s_val (r_lens qu22 (ec rfl en)) ?_
  refine s_val (r_sub rfl rfl (wr (r := (ys.length : Int) - 1))) ?_
  refine za ?_
  refine zc (t80 (t3 [])) ?_
  refine wp_block ?_
  refine c_loop (fun (l0 : List Value) (k : Nat) (l : List Value) (w : World) => ∃ (u7 u12 u13 u14 u15 u16 u32 u33 u34 u35 u36 u37 u38 u39 u40 u41 u42 u43 u44 u45 u46 u47 u48 u49 u50 u51 u52 u53 u54 u55 u56 u57 u58 u59 u60 u61 u62 u63 u64 u65 u66 u67 u68 u69 u70 u71 u72 u73 u74 u75 u76 u77 u78 u79 u80 u81 : Value) (b : Blk), l = ovr l0 [N_, N_, N_, N_, N_, N_, N_, Y_ u7, N_, N_, N_, Y_ (.int .i64 ((k : Int) - 1)), Y_ u12, Y_ u13, Y_ u14, Y_ u15, Y_ u16, N_, N_, N_, N_, N_, N_, N_, N_, N_, N_, N_, N_, N_, N_, N_, Y_ u32, Y_ u33, Y_ u34, Y_ u35, Y_ u36, Y_ u37, Y_ u38, Y_ u39, Y_ u40, Y_ u41, Y_ u42, Y_ u43, Y_ u44, Y_ u45, Y_ u46, Y_ u47, Y_ u48, Y_ u49, Y_ u50, Y_ u51, Y_ u52, Y_ u53, Y_ u54, Y_ u55, Y_ u56, Y_ u57, Y_ u58, Y_ u59, Y_ u60, Y_ u61, Y_ u62, Y_ u63, Y_ u64, Y_ u65, Y_ u66, Y_ u67, Y_ u68, Y_ u69, Y_ u70, Y_ u71, Y_ u72, Y_ u73, Y_ u74, Y_ u75, Y_ u76, Y_ u77, Y_ u78, Y_ u79, Y_ u80, Y_ u81] ∧ k ≤ ys.length ∧ foldB (keyH xs) ((ys.map ceP).drop k) = some b ∧ St w0 [] w ((b10, .cells (kC b).toArray 35 (0, 0)) :: (b6, .cells (kC (By.zero 32)).toArray 35 (0, 0)) :: N)) (fun (k : Nat) => k) ys.length ⟨_, _, _, _, _, _, _, _, _, _, _, _, _, _, _, _, _, _, _, _, _, _, _, _, _, _, _, _, _, _, _, _, _, _, _, _, _, _, _, _, _, _, _, _, _, _, _, _, _, _, _, _, _, _, _, _, (By.zero 32), rfl, (Nat.le_refl _), (by rw [List.drop_of_length_le (by rw [List.length_map]; exact Nat.le_refl _)]; rfl), H⟩ ?_
  intro k l w ⟨u7, u12, u13, u14, u15, u16, u32, u33, u34, u35, u36, u37, u38, u39, u40, u41, u42, u43, u44, u45, u46, u47, u48, u49, u50, u51, u52, u53, u54, u55, u56, u57, u58, u59, u60, u61, u62, u63, u64, u65, u66, u67, u68, u69, u70, u71, u72, u73, u74, u75, u76, u77, u78, u79, u80, u81, b, hl, hk0, hbf, H⟩
  obtain rfl := hl.trans (rfl : _ = t80 (t3 []))
  clear hl
  refine c_seq ?_
  refine zq 83 ⟨rfl, rfl⟩ ?_
  refine zm ?_
  refine s_val (r_geq rfl rfl) ?_
  refine zc (t80 (t3 [])) ?_
  refine c_if rfl (fun h33 => ?_) (fun h33 => ?_)
  ·obtain ⟨m, rfl⟩ : ∃ m, k = m + 1 := ⟨k - 1, by omega⟩
   obtain ⟨y, hx⟩ : ∃ y, ys[m]? = some y := ⟨_, List.getElem?_eq_getElem (by omega)⟩
   have hys := List.mem_of_getElem? hx
   have hym := hY y hys
   have hyb := hb y hym
   obtain ⟨b0, off, pre, post, T0, fz0, ha0, hb0, hp0⟩ := (hR.rrowM (fun h => h) H (fun p hp => (List.mem_cons_of_mem _ (List.mem_cons_of_mem _ hp)))) (by omega)
   subst ha0
   obtain ⟨m0, g1, hmo, hrt, hhs⟩ := way_mem 5 0 n (ceP y) (by rw [hw]; exact List.mem_map.2 ⟨y, hys, rfl⟩)
   have hnm : y.num = m0 := findP_num g1
   subst hnm
   have hr0 := hrf y hym
   obtain ⟨q1, q2⟩ : 1 ≤ y.num ∧ y.num ≤ 65535 := ⟨hrt.2.2.1, hrt.2.2.2.1⟩
   refine wp_skip ?_
   refine x_thenNormal ?_
   refine c_seq ?_
   refine wp_block ?_
   refine zq 83 ⟨rfl, rfl⟩ ?_
   refine zm ?_
   refine zm ?_
   refine s_val (ziS qu22 qs65) ?_
   refine s_val (r_loadn qg65 qs65 rfl hb0 (row_td elCe pre post hp0 hx (by omega)) (ceC_length _)) ?_
   refine s_new (zA (ceC ce0) H qo65) ?_
   intro w b12 H
   refine s_st (zs H 0 11 qs65) (L' := (_ :: _ :: _ :: _)) rfl ?_
   intro w H
   refine zc (t80 (t3 [])) ?_
   refine c_seq ?_
   refine zq 83 ⟨rfl, rfl⟩ ?_
   refine zR 0 qu65 qs3 ?_
   refine s_val (r_load1 qg3 rfl (H.at 0 rfl) (rfl : _ = some (Value.int .i64 y.kind))) ?_
   refine s_val (r_eql rfl rfl) ?_
   refine zc (t80 (t3 [])) ?_
   refine c_if rfl (fun h42 => ?_) (fun h42 => ?_)
   ·refine wp_exit (x_thenExit (x_blockHit ?_))
    refine x_thenNormal ?_
    refine c_region (n := 83) ⟨rfl, rfl⟩ ?_
    refine zm ?_
    refine s_val (r_sub rfl rfl (wr (r := (m : Int) - 1))) ?_
    refine za ?_
    refine zb (t80 (t3 [])) ?_
    have hb2 : foldB (keyH xs) ((ys.map ceP).drop m) = some b := by
     rw [fold_at hx, hbf]
     exact step_same (c := ceP y) (fun h => absurd (h42.symm.trans h) (by decide)) (fun h => absurd (h42.symm.trans h) (by decide))
    
    replace H := H.sub (.cons _ (.cons_cons _ (.cons_cons _ (List.Sublist.refl _))))
    exact ⟨m, _, rfl, ⟨_, _, _, _, _, _, _, _, _, _, _, _, _, _, _, _, _, _, _, _, _, _, _, _, _, _, _, _, _, _, _, _, _, _, _, _, _, _, _, _, _, _, _, _, _, _, _, _, _, _, _, _, _, _, _, _, b, rfl, by omega, hb2, H⟩, by omega⟩
   ·refine wp_skip ?_
    refine x_thenNormal ?_
    refine zq 83 ⟨rfl, rfl⟩ ?_
    refine zm ?_
    refine zm ?_
    refine zR 1 qu65 qs28 ?_
    refine s_val (r_load1 qg28 rfl (H.at 0 rfl) (rfl : _ = some (Value.int .u64 y.num))) ?_
    refine s_call (r_call qc20 (ec rfl en)) (leaf_spec _ _) ?_
    rintro v w ⟨rfl, HC⟩
    replace H := H.quiet HC
    rw [show lf y.num = 2 * y.num from lf_right hrt]
    refine s_call (r_call Tryz.call31 (ec rfl (ec rfl en))) (key23_spec ka kc ks (2 * y.num) hkl _ (hk.st (H.sub (List.nil_sublist _)))) ?_
    rintro v w (⟨j, q, hj, hq, rfl, HC⟩ | ⟨hnk, rfl, HC⟩)
    ·replace H := H.quiet HC
     have hjl := (List.getElem?_eq_some_iff.1 hj).1
     obtain ⟨ql, qk⟩ := q
     obtain rfl : ql = 2 * y.num := hq
     obtain ⟨hh1, hh2⟩ := hK.1 _ (List.mem_of_getElem? hj)
     obtain rfl : qk = keyH xs (2 * y.num) := hh2
     obtain ⟨bk, offk, prek, postk, Tk, fzk, hak, hbk, hpk⟩ := hk (by omega)
     subst hak
     refine s_val (ziS qu32 qs68) ?_
     refine zR 1 Tryz.runUnderlying68 qs24 ?_
     refine s_val (r_loadn qg24 qs24 rfl (H.rd0 hbk) (show _ = kC (keyH xs (2 * y.num)) from kn_key hpk hj (by omega)) (by first | exact (kC_length _) | exact (hC_length _) | exact (ceC_length _) | exact (ptC_length _ _ _ _) | exact (plV_length _ _ _) | exact (elFr.len _) | exact (frC_length _) | exact (fdV_length _ _ _) | exact litC_length | exact rfl)) ?_
     refine s_new (zA (kC (By.zero 32)) H qo24) ?_
     intro w b13 H
     refine s_st (zs H 0 32 qs24) (L' := (_ :: _ :: _ :: _ :: _)) rfl ?_
     intro w H
     refine zc (t80 (t3 [])) ?_
     refine c_seq ?_
     refine zq 83 ⟨rfl, rfl⟩ ?_
     refine zR 0 qu65 qs3 ?_
     refine s_val (r_load1 qg3 rfl (H.at 1 rfl) (rfl : _ = some (Value.int .i64 y.kind))) ?_
     refine s_val (r_eql rfl rfl) ?_
     refine zc (t80 (t3 [])) ?_
     refine c_if rfl (fun h54 => ?_) (fun h54 => ?_)
     ·have hbl : y.body.b.length ≤ 32 := right_body (c := ceP y) hrt (.inl h54)
      have hsl : (shownC (keyH xs) (ceP y)).length = y.body.b.length := shownC_length hbl
      refine c_seq ?_
      refine d_beginS (fun W => W.heap[b13]? = some (Obj.cells (kC (keyH xs (2 * y.num))).toArray 24 (0, 0)) ∧ W.heap[b12]? = some (Obj.cells (ceC y).toArray 65 (0, 0)) ∧ St w0 [] W []) (sz := 83) ⟨rfl, rfl⟩ (by kernel_rfl) H (⟨(H.own (b13, Obj.cells (kC (keyH xs (2 * y.num))).toArray 24 (0, 0)) (by first | exact List.mem_cons_self | exact (List.mem_cons_of_mem _ List.mem_cons_self) | exact (List.mem_cons_of_mem _ (List.mem_cons_of_mem _ List.mem_cons_self)))), (H.own (b12, Obj.cells (ceC y).toArray 65 (0, 0)) (by first | exact List.mem_cons_self | exact (List.mem_cons_of_mem _ List.mem_cons_self) | exact (List.mem_cons_of_mem _ (List.mem_cons_of_mem _ List.mem_cons_self)))), H.sub (List.nil_sublist _)⟩) rfl ?_
      intro w H
      refine zd 0 rfl (by kernel_rfl) (fun _ _ _ h => h) (⟨(H.own (b13, Obj.cells (kC (keyH xs (2 * y.num))).toArray 24 (0, 0)) (by first | exact List.mem_cons_self | exact (List.mem_cons_of_mem _ List.mem_cons_self) | exact (List.mem_cons_of_mem _ (List.mem_cons_of_mem _ List.mem_cons_self)))), (H.own (b12, Obj.cells (ceC y).toArray 65 (0, 0)) (by first | exact List.mem_cons_self | exact (List.mem_cons_of_mem _ List.mem_cons_self) | exact (List.mem_cons_of_mem _ (List.mem_cons_of_mem _ List.mem_cons_self)))), H.sub (List.nil_sublist _)⟩) (r_sliceA qu35 qs5 rfl) rfl ?_
      refine zdh 1 rfl (by kernel_rfl) (fun _ _ _ h => h) (⟨(H.own (b13, Obj.cells (kC (keyH xs (2 * y.num))).toArray 24 (0, 0)) (by first | exact List.mem_cons_self | exact (List.mem_cons_of_mem _ List.mem_cons_self) | exact (List.mem_cons_of_mem _ (List.mem_cons_of_mem _ List.mem_cons_self)))), (H.own (b12, Obj.cells (ceC y).toArray 65 (0, 0)) (by first | exact List.mem_cons_self | exact (List.mem_cons_of_mem _ List.mem_cons_self) | exact (List.mem_cons_of_mem _ (List.mem_cons_of_mem _ List.mem_cons_self)))), H.sub (List.nil_sublist _)⟩) (fun HS => by obtain ⟨HSk, HSc, HS⟩ := HS; exact zo qg24 qs24 (id HSk)) rfl ?_
      refine zdh 2 rfl (by kernel_rfl) (fun _ _ _ h => h) (⟨(H.own (b13, Obj.cells (kC (keyH xs (2 * y.num))).toArray 24 (0, 0)) (by first | exact List.mem_cons_self | exact (List.mem_cons_of_mem _ List.mem_cons_self) | exact (List.mem_cons_of_mem _ (List.mem_cons_of_mem _ List.mem_cons_self)))), (H.own (b12, Obj.cells (ceC y).toArray 65 (0, 0)) (by first | exact List.mem_cons_self | exact (List.mem_cons_of_mem _ List.mem_cons_self) | exact (List.mem_cons_of_mem _ (List.mem_cons_of_mem _ List.mem_cons_self)))), H.sub (List.nil_sublist _)⟩) (fun HS => by obtain ⟨HSk, HSc, HS⟩ := HS; exact r_loadn qg65 qs65 rfl (id HSc) (ceC_td _) (ceC_length _)) rfl ?_
      refine zd 5 rfl (by kernel_rfl) (fun _ _ _ h => h) (⟨(H.own (b13, Obj.cells (kC (keyH xs (2 * y.num))).toArray 24 (0, 0)) (by first | exact List.mem_cons_self | exact (List.mem_cons_of_mem _ List.mem_cons_self) | exact (List.mem_cons_of_mem _ (List.mem_cons_of_mem _ List.mem_cons_self)))), (H.own (b12, Obj.cells (ceC y).toArray 65 (0, 0)) (by first | exact List.mem_cons_self | exact (List.mem_cons_of_mem _ List.mem_cons_self) | exact (List.mem_cons_of_mem _ (List.mem_cons_of_mem _ List.mem_cons_self)))), H.sub (List.nil_sublist _)⟩) (zr 10 qu65 qs59) rfl ?_
      refine zdh 6 rfl (by kernel_rfl) (fun _ _ _ h => h) (⟨(H.own (b13, Obj.cells (kC (keyH xs (2 * y.num))).toArray 24 (0, 0)) (by first | exact List.mem_cons_self | exact (List.mem_cons_of_mem _ List.mem_cons_self) | exact (List.mem_cons_of_mem _ (List.mem_cons_of_mem _ List.mem_cons_self)))), (H.own (b12, Obj.cells (ceC y).toArray 65 (0, 0)) (by first | exact List.mem_cons_self | exact (List.mem_cons_of_mem _ List.mem_cons_self) | exact (List.mem_cons_of_mem _ (List.mem_cons_of_mem _ List.mem_cons_self)))), H.sub (List.nil_sublist _)⟩) (fun HS => by obtain ⟨HSk, HSc, HS⟩ := HS; exact r_load1 qg59 rfl (id HSc) (rfl : _ = some (bdV y.body))) rfl ?_
      refine zl1 3 ?_
      have hrf1 : y.ref ≤ 1 := (right_full (c := ceP y) hrt h54).2
      refine b_call rfl go_none (r_call Tryz.call32 (ec rfl en)) (nonce_spec y hr0 (by omega) (by omega) (by omega) _) rfl ?_
      rintro v w ⟨rfl, HC⟩
      replace H := H.quiet HC
      refine ⟨(⟨(H.own (b13, Obj.cells (kC (keyH xs (2 * y.num))).toArray 24 (0, 0)) (by first | exact List.mem_cons_self | exact (List.mem_cons_of_mem _ List.mem_cons_self) | exact (List.mem_cons_of_mem _ (List.mem_cons_of_mem _ List.mem_cons_self)))), (H.own (b12, Obj.cells (ceC y).toArray 65 (0, 0)) (by first | exact List.mem_cons_self | exact (List.mem_cons_of_mem _ List.mem_cons_self) | exact (List.mem_cons_of_mem _ (List.mem_cons_of_mem _ List.mem_cons_self)))), H.sub (List.nil_sublist _)⟩), ?_⟩
      refine zl1 4 ?_
      refine b_call rfl go_none (r_call qc22 (ec rfl (ec rfl en))) (pad_spec (keyH xs (2 * y.num)) (y.num + y.ref * 4294967296) (by omega) (by omega) _) rfl ?_
      rintro v w ⟨rfl, HC⟩
      replace H := H.quiet HC
      refine ⟨(⟨(H.own (b13, Obj.cells (kC (keyH xs (2 * y.num))).toArray 24 (0, 0)) (by first | exact List.mem_cons_self | exact (List.mem_cons_of_mem _ List.mem_cons_self) | exact (List.mem_cons_of_mem _ (List.mem_cons_of_mem _ List.mem_cons_self)))), (H.own (b12, Obj.cells (ceC y).toArray 65 (0, 0)) (by first | exact List.mem_cons_self | exact (List.mem_cons_of_mem _ List.mem_cons_self) | exact (List.mem_cons_of_mem _ (List.mem_cons_of_mem _ List.mem_cons_self)))), H.sub (List.nil_sublist _)⟩), ?_⟩
      refine zl1 7 ?_
      refine b_call rfl go_none (r_call qc21 (ec rfl (ec rfl en))) (rhide_l (padB (keyH xs (2 * y.num)) (y.num + y.ref * 4294967296)) _ _ _ y.body.b rfl hbl _ (hyb.st (H.sub (List.nil_sublist _)))) rfl ?_
      rintro v w ⟨a26, c26, N26, rfl, hN26, HC⟩
      replace H := H.call0 HC
      have hxl2 : (xorB (padB (keyH xs (2 * y.num)) (y.num + y.ref * 4294967296)).1 y.body.b).length = y.body.b.length := xorB_length (by rw [(padB _ _).2]; exact hbl)
      rw [← hxl2] at hN26 ⊢
      rw [← (show (shownC (keyH xs) (ceP y)) = xorB (padB (keyH xs (2 * y.num)) (y.num + y.ref * 4294967296)).1 y.body.b from shown_1 h54)] at hN26 hxl2 ⊢
      obtain ⟨bh, sph, rfl, hc26, rfl, hc27⟩ := RowN.some hN26 (by rw [hxl2]; exact (by rw [show y.body.b.length = 32 from (right_full (c := ceP y) hrt h54).1]; decide))
      replace H : St w0 [] w (_ :: _ :: _ :: _ :: _ :: _) := H
      refine ⟨(⟨(H.own (b13, Obj.cells (kC (keyH xs (2 * y.num))).toArray 24 (0, 0)) (by first | exact List.mem_cons_self | exact (List.mem_cons_of_mem _ List.mem_cons_self) | exact (List.mem_cons_of_mem _ (List.mem_cons_of_mem _ List.mem_cons_self)))), (H.own (b12, Obj.cells (ceC y).toArray 65 (0, 0)) (by first | exact List.mem_cons_self | exact (List.mem_cons_of_mem _ List.mem_cons_self) | exact (List.mem_cons_of_mem _ (List.mem_cons_of_mem _ List.mem_cons_self)))), H.sub (List.nil_sublist _)⟩), ?_⟩
      refine zl1 8 ?_
      refine b_any rfl go_none (m_copyS H 3 qu59 qs5 (ec rfl (ec rfl en)) (BRow.src (show BRow _ (some ⟨bh, 0, none⟩) (shownC (keyH xs) (ceP y)) from fun _ => ⟨bh, 0, [], sph, _, _, rfl, (by rw [List.nil_append]; exact H.at 0 rfl), rfl⟩) _) (by omega) rfl (by rw [bC_length, kC_length]; omega) (put_splice b (by omega))) rfl (by rintro v w H; exact (⟨(H.own (b13, Obj.cells (kC (keyH xs (2 * y.num))).toArray 24 (0, 0)) (by first | exact List.mem_cons_self | exact (List.mem_cons_of_mem _ List.mem_cons_self) | exact (List.mem_cons_of_mem _ (List.mem_cons_of_mem _ List.mem_cons_self)))), (H.own (b12, Obj.cells (ceC y).toArray 65 (0, 0)) (by first | exact List.mem_cons_self | exact (List.mem_cons_of_mem _ List.mem_cons_self) | exact (List.mem_cons_of_mem _ (List.mem_cons_of_mem _ List.mem_cons_self)))), H.sub (List.nil_sublist _)⟩)) ?_
      rintro v w H
      replace H : St w0 [] w (_ :: _ :: _ :: _ :: _ :: N) := H
      refine zz (t80 (t3 [])) ?_
      refine x_thenNormal ?_
      refine wp_exit (x_thenExit (x_blockHit ?_))
      refine x_thenNormal ?_
      refine c_region (n := 83) ⟨rfl, rfl⟩ ?_
      refine zm ?_
      refine s_val (r_sub rfl rfl (wr (r := (m : Int) - 1))) ?_
      refine za ?_
      refine zb (t80 (t3 [])) ?_
      have hb2 : foldB (keyH xs) ((ys.map ceP).drop m) = some (putAt b 0 (shownC (keyH xs) (ceP y))) := by
       rw [fold_at hx, hbf]
       exact step_full (c := ceP y) h54
      
      replace H := H.sub (.cons _ (.cons _ (.cons _ (.cons_cons _ (.cons_cons _ (List.Sublist.refl _))))))
      exact ⟨m, _, rfl, ⟨_, _, _, _, _, _, _, _, _, _, _, _, _, _, _, _, _, _, _, _, _, _, _, _, _, _, _, _, _, _, _, _, _, _, _, _, _, _, _, _, _, _, _, _, _, _, _, _, _, _, _, _, _, _, _, _, (putAt b 0 (shownC (keyH xs) (ceP y))), rfl, by omega, hb2, H⟩, by omega⟩
     ·have hk3 : y.kind = 3 := mom_3 hmo h54 h42
      have hbl : y.body.b.length ≤ 32 := right_body (c := ceP y) hrt (.inr hk3)
      have hsl : (shownC (keyH xs) (ceP y)).length = y.body.b.length := shownC_length hbl
      have h1b := right_one (c := ceP y) hrt hk3
      refine wp_skip ?_
      refine x_thenNormal ?_
      refine c_seq ?_
      refine d_beginS (fun W => W.heap[b13]? = some (Obj.cells (kC (keyH xs (2 * y.num))).toArray 24 (0, 0)) ∧ W.heap[b12]? = some (Obj.cells (ceC y).toArray 65 (0, 0)) ∧ St w0 [] W []) (sz := 83) ⟨rfl, rfl⟩ (by kernel_rfl) H (⟨(H.own (b13, Obj.cells (kC (keyH xs (2 * y.num))).toArray 24 (0, 0)) (by first | exact List.mem_cons_self | exact (List.mem_cons_of_mem _ List.mem_cons_self) | exact (List.mem_cons_of_mem _ (List.mem_cons_of_mem _ List.mem_cons_self)))), (H.own (b12, Obj.cells (ceC y).toArray 65 (0, 0)) (by first | exact List.mem_cons_self | exact (List.mem_cons_of_mem _ List.mem_cons_self) | exact (List.mem_cons_of_mem _ (List.mem_cons_of_mem _ List.mem_cons_self)))), H.sub (List.nil_sublist _)⟩) rfl ?_
      intro w H
      refine zdh 0 rfl (by kernel_rfl) (fun _ _ _ h => h) (⟨(H.own (b13, Obj.cells (kC (keyH xs (2 * y.num))).toArray 24 (0, 0)) (by first | exact List.mem_cons_self | exact (List.mem_cons_of_mem _ List.mem_cons_self) | exact (List.mem_cons_of_mem _ (List.mem_cons_of_mem _ List.mem_cons_self)))), (H.own (b12, Obj.cells (ceC y).toArray 65 (0, 0)) (by first | exact List.mem_cons_self | exact (List.mem_cons_of_mem _ List.mem_cons_self) | exact (List.mem_cons_of_mem _ (List.mem_cons_of_mem _ List.mem_cons_self)))), H.sub (List.nil_sublist _)⟩) (fun HS => by obtain ⟨HSk, HSc, HS⟩ := HS; exact zo qg24 qs24 (id HSk)) rfl ?_
      refine zd 1 rfl (by kernel_rfl) (fun _ _ _ h => h) (⟨(H.own (b13, Obj.cells (kC (keyH xs (2 * y.num))).toArray 24 (0, 0)) (by first | exact List.mem_cons_self | exact (List.mem_cons_of_mem _ List.mem_cons_self) | exact (List.mem_cons_of_mem _ (List.mem_cons_of_mem _ List.mem_cons_self)))), (H.own (b12, Obj.cells (ceC y).toArray 65 (0, 0)) (by first | exact List.mem_cons_self | exact (List.mem_cons_of_mem _ List.mem_cons_self) | exact (List.mem_cons_of_mem _ (List.mem_cons_of_mem _ List.mem_cons_self)))), H.sub (List.nil_sublist _)⟩) (zr 1 qu65 qs28) rfl ?_
      refine zdh 2 rfl (by kernel_rfl) (fun _ _ _ h => h) (⟨(H.own (b13, Obj.cells (kC (keyH xs (2 * y.num))).toArray 24 (0, 0)) (by first | exact List.mem_cons_self | exact (List.mem_cons_of_mem _ List.mem_cons_self) | exact (List.mem_cons_of_mem _ (List.mem_cons_of_mem _ List.mem_cons_self)))), (H.own (b12, Obj.cells (ceC y).toArray 65 (0, 0)) (by first | exact List.mem_cons_self | exact (List.mem_cons_of_mem _ List.mem_cons_self) | exact (List.mem_cons_of_mem _ (List.mem_cons_of_mem _ List.mem_cons_self)))), H.sub (List.nil_sublist _)⟩) (fun HS => by obtain ⟨HSk, HSc, HS⟩ := HS; exact r_load1 qg28 rfl (id HSc) (rfl : _ = some (Value.int .u64 y.num))) rfl ?_
      refine zd 4 rfl (by kernel_rfl) (fun _ _ _ h => h) (⟨(H.own (b13, Obj.cells (kC (keyH xs (2 * y.num))).toArray 24 (0, 0)) (by first | exact List.mem_cons_self | exact (List.mem_cons_of_mem _ List.mem_cons_self) | exact (List.mem_cons_of_mem _ (List.mem_cons_of_mem _ List.mem_cons_self)))), (H.own (b12, Obj.cells (ceC y).toArray 65 (0, 0)) (by first | exact List.mem_cons_self | exact (List.mem_cons_of_mem _ List.mem_cons_self) | exact (List.mem_cons_of_mem _ (List.mem_cons_of_mem _ List.mem_cons_self)))), H.sub (List.nil_sublist _)⟩) (zr 10 qu65 qs59) rfl ?_
      refine zdh 5 rfl (by kernel_rfl) (fun _ _ _ h => h) (⟨(H.own (b13, Obj.cells (kC (keyH xs (2 * y.num))).toArray 24 (0, 0)) (by first | exact List.mem_cons_self | exact (List.mem_cons_of_mem _ List.mem_cons_self) | exact (List.mem_cons_of_mem _ (List.mem_cons_of_mem _ List.mem_cons_self)))), (H.own (b12, Obj.cells (ceC y).toArray 65 (0, 0)) (by first | exact List.mem_cons_self | exact (List.mem_cons_of_mem _ List.mem_cons_self) | exact (List.mem_cons_of_mem _ (List.mem_cons_of_mem _ List.mem_cons_self)))), H.sub (List.nil_sublist _)⟩) (fun HS => by obtain ⟨HSk, HSc, HS⟩ := HS; exact r_load1 qg59 rfl (id HSc) (rfl : _ = some (bdV y.body))) rfl ?_
      refine zl1 3 ?_
      refine b_call rfl go_none (r_call qc22 (ec rfl (ec rfl en))) (pad_spec (keyH xs (2 * y.num)) y.num (by omega) (by omega) _) rfl ?_
      rintro v w ⟨rfl, HC⟩
      replace H := H.quiet HC
      refine ⟨(⟨(H.own (b13, Obj.cells (kC (keyH xs (2 * y.num))).toArray 24 (0, 0)) (by first | exact List.mem_cons_self | exact (List.mem_cons_of_mem _ List.mem_cons_self) | exact (List.mem_cons_of_mem _ (List.mem_cons_of_mem _ List.mem_cons_self)))), (H.own (b12, Obj.cells (ceC y).toArray 65 (0, 0)) (by first | exact List.mem_cons_self | exact (List.mem_cons_of_mem _ List.mem_cons_self) | exact (List.mem_cons_of_mem _ (List.mem_cons_of_mem _ List.mem_cons_self)))), H.sub (List.nil_sublist _)⟩), ?_⟩
      refine zl1 6 ?_
      refine b_call rfl go_none (r_call qc21 (ec rfl (ec rfl en))) (rhide_l (padB (keyH xs (2 * y.num)) y.num) _ _ _ y.body.b rfl hbl _ (hyb.st (H.sub (List.nil_sublist _)))) rfl ?_
      rintro v w ⟨a26, c26, N26, rfl, hN26, HC⟩
      replace H := H.call0 HC
      have hxl2 : (xorB (padB (keyH xs (2 * y.num)) y.num).1 y.body.b).length = y.body.b.length := xorB_length (by rw [(padB _ _).2]; exact hbl)
      rw [← hxl2] at hN26 ⊢
      rw [← (show (shownC (keyH xs) (ceP y)) = xorB (padB (keyH xs (2 * y.num)) y.num).1 y.body.b from shown_3 h54)] at hN26 hxl2 ⊢
      obtain ⟨bh, sph, rfl, hc26, rfl, hc27⟩ := RowN.some hN26 (by rw [hxl2]; exact h1b)
      replace H : St w0 [] w (_ :: _ :: _ :: _ :: _ :: _) := H
      refine ⟨(⟨(H.own (b13, Obj.cells (kC (keyH xs (2 * y.num))).toArray 24 (0, 0)) (by first | exact List.mem_cons_self | exact (List.mem_cons_of_mem _ List.mem_cons_self) | exact (List.mem_cons_of_mem _ (List.mem_cons_of_mem _ List.mem_cons_self)))), (H.own (b12, Obj.cells (ceC y).toArray 65 (0, 0)) (by first | exact List.mem_cons_self | exact (List.mem_cons_of_mem _ List.mem_cons_self) | exact (List.mem_cons_of_mem _ (List.mem_cons_of_mem _ List.mem_cons_self)))), H.sub (List.nil_sublist _)⟩), ?_⟩
      refine zd 7 rfl (by kernel_rfl) (fun _ _ _ h => h) (⟨(H.own (b13, Obj.cells (kC (keyH xs (2 * y.num))).toArray 24 (0, 0)) (by first | exact List.mem_cons_self | exact (List.mem_cons_of_mem _ List.mem_cons_self) | exact (List.mem_cons_of_mem _ (List.mem_cons_of_mem _ List.mem_cons_self)))), (H.own (b12, Obj.cells (ceC y).toArray 65 (0, 0)) (by first | exact List.mem_cons_self | exact (List.mem_cons_of_mem _ List.mem_cons_self) | exact (List.mem_cons_of_mem _ (List.mem_cons_of_mem _ List.mem_cons_self)))), H.sub (List.nil_sublist _)⟩) (r_assign rfl) rfl ?_
      refine zz (t80 (t3 [])) ?_
      refine x_thenNormal ?_
      refine zq 83 ⟨rfl, rfl⟩ ?_
      refine zm ?_
      refine s_call (r_call Tryz.call33 (ec rfl en)) (rruns_spec _ _ (shownC (keyH xs) (ceP y)) (by omega) _ (show BRow _ (some ⟨bh, 0, none⟩) (shownC (keyH xs) (ceP y)) from fun _ => ⟨bh, 0, [], sph, _, _, rfl, (by rw [List.nil_append]; exact H.at 0 rfl), rfl⟩)) ?_
      rintro v w (⟨ps, a5, c5, N5, hps, rfl, hN5, HC⟩ | ⟨hps, rfl, HC⟩)
      ·replace H : St w0 [] w (_ :: _ :: _ :: _ :: _ :: N) := (H.call0 HC).sub (List.sublist_append_right _ _)
       refine zm ?_
       refine ze ?_
       refine ze ?_
       refine za ?_
       refine za ?_
       refine zc (t80 (t3 [])) ?_
       refine c_seq ?_
       refine zq 83 ⟨rfl, rfl⟩ ?_
       refine zm ?_
       refine s_val (r_not rfl) ?_
       refine zc (t80 (t3 [])) ?_
       refine c_iff rfl ?_
       refine wp_skip ?_
       refine x_thenNormal ?_
       refine c_region (n := 83) ⟨rfl, rfl⟩ ?_
       refine s_val (zo qg35 qs35 (H.at 3 rfl)) ?_
       refine zm ?_
       refine s_call (r_call Tryz.call34 (ec rfl (ec rfl en))) (rapply_spec b _ _ (shownC (keyH xs) (ceP y)) (by omega) ps hps _ (show BRow _ (some ⟨bh, 0, none⟩) (shownC (keyH xs) (ceP y)) from fun _ => ⟨bh, 0, [], sph, _, _, rfl, (by rw [List.nil_append]; exact H.at 0 rfl), rfl⟩)) ?_
       rintro v w ⟨rfl, HC⟩
       replace H := H.quiet HC
       refine s_st (zs H 3 32 qs35) (L' := (_ :: _ :: _ :: _ :: _ :: _)) rfl ?_
       intro w H
       refine zb (t80 (t3 [])) ?_
       refine x_blockNormal ?_
       refine x_thenNormal ?_
       refine c_region (n := 83) ⟨rfl, rfl⟩ ?_
       refine zm ?_
       refine s_val (r_sub rfl rfl (wr (r := (m : Int) - 1))) ?_
       refine za ?_
       refine zb (t80 (t3 [])) ?_
       have hb2 : foldB (keyH xs) ((ys.map ceP).drop m) = some (putAll b ps) := by
        rw [fold_at hx, hbf]
        exact (step_delta (c := ceP y) hk3).trans (by unfold applyD; rw [hps]; rfl)
       
       replace H := H.sub (.cons _ (.cons _ (.cons _ (.cons_cons _ (.cons_cons _ (List.Sublist.refl _))))))
       exact ⟨m, _, rfl, ⟨_, _, _, _, _, _, _, _, _, _, _, _, _, _, _, _, _, _, _, _, _, _, _, _, _, _, _, _, _, _, _, _, _, _, _, _, _, _, _, _, _, _, _, _, _, _, _, _, _, _, _, _, _, _, _, _, (putAll b ps), rfl, by omega, hb2, H⟩, by omega⟩
      ·replace H := H.quiet HC
       refine zm ?_
       refine ze ?_
       refine ze ?_
       refine za ?_
       refine za ?_
       refine zc (t80 (t3 [])) ?_
       refine c_seq ?_
       refine zq 83 ⟨rfl, rfl⟩ ?_
       refine zm ?_
       refine s_val (r_not rfl) ?_
       refine zc (t80 (t3 [])) ?_
       refine c_ift rfl ?_
       refine zq 83 ⟨rfl, rfl⟩ ?_
       refine s_val (r_buildA (pl := []) (zs := kC (By.zero 32)) (out := kC (By.zero 32)) qu35 qs5 qo35 pn (by intro p hp; simp at hp) rfl) ?_
       refine s_st (zs H 4 32 qs35) (L' := (_ :: _ :: _ :: _ :: _ :: _)) rfl ?_
       intro w H
       refine za ?_
       refine zc (t80 (t3 [])) ?_
       refine wp_ret (x_thenRet (x_blockRet (x_thenRet (x_thenRet (x_blockRet (x_thenRet ?_))))))
       refine zw (rc_two rfl (ro qg35 qs35 (H.at 4 rfl)) (rc_tmp rfl)) ?_
       rw [readF_none hw he0 (fold_none (k := m) (by rw [fold_at hx, hbf]; exact (step_delta (c := ceP y) hk3).trans (by unfold applyD; rw [hps]; rfl)))]
       exact ⟨rfl, (H.sub (List.nil_sublist _))⟩
    ·exact absurd ((hhs.resolve_left h42).symm.trans (ksA_no hK hym (lf_right hrt) hnk)) (by decide)
  ·obtain rfl : k = 0 := by omega
   rw [List.drop_zero] at hbf
   rw [readF_some hw he0 hbf]
   refine wp_exit (x_thenExit (x_thenExit (x_blockHit ?_)))
   refine x_thenNormal ?_
   refine zq 83 ⟨rfl, rfl⟩ ?_
   refine s_val (zo qg35 qs35 (H.at 0 rfl)) ?_
   refine s_st (zs H 1 32 qs35) (L' := (_ :: _ :: _)) rfl ?_
   intro w H
   refine za ?_
   refine zc (t80 (t3 [])) ?_
   refine wp_ret ?_
   refine zw (rc_two rfl (ro qg35 qs35 (H.at 1 rfl)) (rc_tmp rfl)) ?_
   exact ⟨rfl, (H.sub (List.nil_sublist _))⟩

end Go.Proofs.YtobfnieebiakeaaGreat

