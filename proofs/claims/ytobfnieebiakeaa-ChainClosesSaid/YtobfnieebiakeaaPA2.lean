import Derived.Test.YtobfnieebiakeaaPM
import Derived.Test.YtobfnieebiakeaaPA1
import Derived.Test.YtobfnieebiakeaaPX3
namespace Go.Proofs.Ytobfnieebiakeaa
open Go Go.Er

set_option maxHeartbeats 4000000 in
theorem get_mk (a : Option Addr) (n c : Nat) (w0 : World) :
  Calls Try.prog 13 #[.slice a n c] w0 fun e w => ∃ v, e = .returned v ∧ (∃ bg, v = .func (.func 27) #[] #[.pointer (some ⟨bg, 0, none⟩)] ∧ St w0 [] w [(bg, .cells [.slice a n c].toArray 22 (0, 0))]) := by
 have H := St.refl w0
 refine c_enter (args := [.slice a n c]) (l := t4 []) Try.func13 Try.ntmps13 rfl rfl ?_
 refine zq 4 ⟨rfl, rfl⟩ ?_
 refine s_new (m_box (cs := [.slice a n c]) H rfl rfl) ?_
 intro w b1 H
 refine za ?_
 refine zc (t4 []) ?_
 refine zq 4 ⟨rfl, rfl⟩ ?_
 refine s_val (r_makeFunc en (ec rfl en)) ?_
 refine za ?_
 refine zc (t4 []) ?_
 refine wp_ret ?_
 refine zw (res1 rfl rfl) ?_
 exact ⟨_, rfl, H⟩

set_option maxHeartbeats 4000000 in
theorem getf_spec (bg : Nat) (cl : List Ce) (n : Int) (hl : cl.length ≤ 1000000) (hb : ∀ y ∈ cl, y.body.b.length ≤ 1000000) (w0 : World) (hg : GetW w0 bg cl) :
  Calls Try.prog 27 #[.int .u64 n, .pointer (some ⟨bg, 0, none⟩)] w0 fun e w => ∃ v, e = .returned v ∧ ((∃ (y : Ce) (N : List (Nat × Obj)), findP (cl.map ceP) n = some (ceP y) ∧ v = .tuple #[.agg (ceC y).toArray, .bool true] ∧ RowN 1 5 (bC y.body.b) y.body.b.length y.body.a y.body.c N ∧ St w0 [] w N) ∨ (findP (cl.map ceP) n = none ∧ v = .tuple #[.agg (ceC ce0).toArray, .bool false] ∧ St w0 [] w [])) := by
 obtain ⟨a, c, T, fz, hbg, hr, hbr⟩ := id hg
 have H := St.refl w0
 refine c_enter (args := [.int .u64 n, .pointer (some ⟨bg, 0, none⟩)]) (l := t20 (t5 [])) Try.func27 Try.ntmps27 rfl rfl ?_
 refine zq 25 ⟨rfl, rfl⟩ ?_
 refine s_new (zA (ceC ce0) H qo43) ?_
 intro w b3 H
 refine za ?_
 refine zc (t20 (t5 [])) ?_
 refine c_seq ?_
 refine zq 25 ⟨rfl, rfl⟩ ?_
 refine zL qg22 (H.rd0 hbg) ?_
 refine s_val (r_lens qu22 (ec rfl en)) ?_
 refine zm ?_
 refine zc (t20 (t5 [])) ?_
 refine wp_block ?_
 refine c_loop (fun (l0 : List Value) (i : Nat) (l : List Value) (w : World) => ∃ (u4 u6 u10 u11 u12 u13 u14 u15 u16 u17 u18 u19 u20 u21 u22 u23 : Value) , l = ovr l0 [N_, N_, N_, N_, Y_ u4, N_, Y_ u6, N_, N_, Y_ (.int .i64 i), Y_ u10, Y_ u11, Y_ u12, Y_ u13, Y_ u14, Y_ u15, Y_ u16, Y_ u17, Y_ u18, Y_ u19, Y_ u20, Y_ u21, Y_ u22, Y_ u23] ∧ i ≤ cl.length ∧ (∀ x ∈ cl.take i, x.num ≠ n) ∧ St w0 [] w ((b3, .cells (ceC ce0).toArray 43 (0, 0)) :: [])) (fun (i : Nat) => cl.length - i) 0 ⟨_, _, _, _, _, _, _, _, _, _, _, _, _, _, _, _, rfl, Nat.zero_le _, (fun _ h => nomatch h), H⟩ ?_
 intro i l w ⟨u4, u6, u10, u11, u12, u13, u14, u15, u16, u17, u18, u19, u20, u21, u22, u23, hl, hi, hno, H⟩
 obtain rfl := hl.trans (rfl : _ = t20 (t5 []))
 clear hl
 refine zq 25 ⟨rfl, rfl⟩ ?_
 refine s_val (r_lss rfl rfl) ?_
 refine zc (t20 (t5 [])) ?_
 refine c_seq ?_
 refine c_if rfl (fun h10 => ?_) (fun h10 => ?_)
 ·obtain ⟨y, hx⟩ : ∃ y, cl[i]? = some y := ⟨_, List.getElem?_eq_getElem (by omega)⟩
  have hym := List.mem_of_getElem? hx
  obtain ⟨b0, off, pre, post, T0, fz0, rfl, hb0, hp0⟩ := hr (by omega)
  refine wp_skip ?_
  refine x_thenNormal ?_
  refine c_seq ?_
  refine wp_block ?_
  refine zq 25 ⟨rfl, rfl⟩ ?_
  refine s_val (ziS qu22 qs43) ?_
  refine s_val (r_loadn qg43 qs43 rfl (H.rd0 hb0) (row_td elCe pre post hp0 hx (by omega)) (ceC_length _)) ?_
  refine s_new (zA (ceC ce0) H qo43) ?_
  intro w b6 H
  refine s_st (zs H 0 11 qs43) (L' := (_ :: _ :: _)) rfl ?_
  intro w H
  refine zc (t20 (t5 [])) ?_
  refine zq 25 ⟨rfl, rfl⟩ ?_
  refine zR 1 qu43 qs28 ?_
  refine s_val (r_load1 qg28 rfl (H.at 0 rfl) (rfl : _ = some (Value.int .u64 y.num))) ?_
  refine zm ?_
  refine s_val (r_eql rfl rfl) ?_
  refine zc (t20 (t5 [])) ?_
  refine c_if rfl (fun h16 => ?_) (fun h16 => ?_)
  ·refine zq 25 ⟨rfl, rfl⟩ ?_
   refine s_new (m_bslice0 H qu41 qs5) ?_
   intro w b17 H
   refine zR 10 qu43 qs41 ?_
   refine zL qg41 (H.at 1 rfl) ?_
   have hbl := hb y hym
   refine s_any (m_append_lit H qu41 qu41 (fun _ h => nomatch h) qs5 Try.zeroValue5 rfl Try.typeInfo5 (by rw [bytes5]; omega) (by rw [bytes5]; omega) (ec rfl (ec rfl en)) (((hbr y hym).st (H.sub (List.nil_sublist _))).src _)) ?_
   rintro v w ⟨ao, co, No, rfl, hNo, H⟩
   replace H : St w0 [] w (_ :: _ :: No) := H.perm (List.perm_append_comm (l₁ := [_,_]) (l₂ := No))
   refine zR 10 qu43 qs41 ?_
   refine s_st (m_store1 H 0 qs41 rfl rfl rfl rfl (by show 10 < 11; omega) (rfl : _ = ceC { y with body := ⟨ao, y.body.b, co⟩ })) (L' := (_ :: _ :: _)) rfl ?_
   intro w H
   refine zc (t20 (t5 [])) ?_
   refine zq 25 ⟨rfl, rfl⟩ ?_
   refine s_val (zp qg43 qs43 (H.at 0 rfl) (ceC_td _)) ?_
   refine s_st (zs H 1 11 qs43) (L' := (_ :: _ :: _)) rfl ?_
   intro w H
   refine za ?_
   refine zc (t20 (t5 [])) ?_
   refine wp_ret (x_blockRet (x_thenRet (x_thenRet (x_blockRet (x_thenRet ?_)))))
   refine zw (rc_two rfl (ro qg43 qs43 (H.at 1 rfl)) (rc_tmp rfl)) ?_
   exact .inl ⟨({ y with body := ⟨ao, y.body.b, co⟩ } : Ce), No, (show _ = some (ceP y) from findP_take hno hx h16), rfl, hNo, H.sub (.cons _ (.cons _ (List.Sublist.refl _)))⟩
  ·refine wp_skip ?_
   refine x_blockNormal ?_
   refine x_thenNormal ?_
   refine c_region (n := 25) ⟨rfl, rfl⟩ ?_
   refine zj ?_
   refine zm ?_
   refine zb (t20 (t5 [])) ?_
   replace H := H.sub (.cons _ (.cons_cons _ (List.Sublist.refl _)))
   exact ⟨i + 1, _, rfl, ⟨_,_,_,_,_,_,_,_,_,_,_,_,_,_,_,_, rfl, by omega, (by
     intro x hxm
     rw [List.take_add_one, hx] at hxm
     rcases List.mem_append.1 hxm with h | h
     ·exact hno x h
     ·rw [List.mem_singleton.1 h]; exact h16), H⟩, by omega⟩
 ·obtain rfl : i = cl.length := by omega
  rw [List.take_length] at hno
  refine wp_exit (x_thenExit (x_thenExit (x_blockHit ?_)))
  refine x_thenNormal ?_
  refine zq 25 ⟨rfl, rfl⟩ ?_
  refine s_val (r_buildS (zs := ceC ce0) (out := ceC ce0) qu43 qo43 places43 pn rfl) ?_
  refine s_st (zs H 0 11 qs43) (L' := (_ :: _)) rfl ?_
  intro w H
  refine za ?_
  refine zc (t20 (t5 [])) ?_
  refine wp_ret ?_
  refine zw (rc_two rfl (ro qg43 qs43 (H.at 0 rfl)) (rc_tmp rfl)) ?_
  exact .inr ⟨findP_all hno, rfl, (H.sub (List.nil_sublist _))⟩

set_option maxHeartbeats 4000000 in
theorem told_spec (bg : Nat) (cl : List Ce) (n : Int) (hl : cl.length ≤ 1000000) (hb : ∀ y ∈ cl, y.body.b.length ≤ 1000000) (w0 : World) (hg : GetW w0 bg cl) :
  Calls Try.prog 28 #[(.func (.func 27) #[] #[.pointer (some ⟨bg, 0, none⟩)]), .int .u64 n] w0 fun e w => ∃ v, e = .returned v ∧ ((∃ (y : Ce) (N : List (Nat × Obj)), findP (cl.map ceP) n = some (ceP y) ∧ v = .tuple #[.agg (ceC y).toArray, .bool (momK y.kind)] ∧ RowN 1 5 (bC y.body.b) y.body.b.length y.body.a y.body.c N ∧ St w0 [] w N) ∨ (findP (cl.map ceP) n = none ∧ v = .tuple #[.agg (ceC ce0).toArray, .bool false] ∧ St w0 [] w [])) := by
 have H := St.refl w0
 refine c_enter (args := [(.func (.func 27) #[] #[.pointer (some ⟨bg, 0, none⟩)]), .int .u64 n]) (l := t20 (t9 [])) Try.func28 Try.ntmps28 rfl rfl ?_
 refine zq 29 ⟨rfl, rfl⟩ ?_
 refine s_new (zA (ceC ce0) H qo43) ?_
 intro w b4 H
 refine za ?_
 refine zc (t20 (t9 [])) ?_
 refine c_seq ?_
 refine zq 29 ⟨rfl, rfl⟩ ?_
 refine zm ?_
 refine s_val (r_nilf Try.runUnderlying37 ⟨_, _, _, rfl⟩ rfl rfl) ?_
 refine zc (t20 (t9 [])) ?_
 refine c_iff rfl ?_
 refine wp_skip ?_
 refine x_thenNormal ?_
 refine zq 29 ⟨rfl, rfl⟩ ?_
 refine zm ?_
 refine zm ?_
 refine s_call (r_callv Try.call27 rfl (ec rfl en) rfl) (getf_spec bg cl n hl hb _ (hg.st (H.sub (List.nil_sublist _)))) ?_
 rintro v w (⟨y, No, hfd, rfl, hNo, HC⟩ | ⟨hfd, rfl, HC⟩)
 ·replace H : St w0 [] w (_ :: No) := (H.call0 HC).perm (List.perm_append_comm (l₁ := [_]) (l₂ := No))
  refine zm ?_
  refine ze ?_
  refine ze ?_
  refine s_new (zA (ceC ce0) H qo43) ?_
  intro w b6 H
  refine s_st (zs H 0 11 qs43) (L' := (_ :: _ :: _)) rfl ?_
  intro w H
  refine za ?_
  refine zc (t20 (t9 [])) ?_
  refine c_seq ?_
  refine d_begin (sz := 29) ⟨rfl, rfl⟩ (by kernel_rfl) H (H.sub x10r) rfl ?_
  intro w H
  refine zdh 0 rfl (by kernel_rfl) (fun _ _ _ h => h) (H.sub x10r) (fun HS => zp qg43 qs43 (HS.at 0 rfl) (ceC_td _)) rfl ?_
  refine zM 1 (H.sub x10r) ?_
  refine zM 2 (H.sub x10r) ?_
  refine zG 3 rfl rfl rfl (by kernel_rfl) (fun _ _ _ h => h) (H.sub x10r) (zr 1 qu43 qs28) rfl ?_
  refine zGh 4 rfl rfl rfl (by kernel_rfl) (fun _ _ _ h => h) (H.sub x10r) (fun HS => r_load1 qg28 rfl (HS.at 0 rfl) (rfl : _ = some (Value.int .u64 y.num))) rfl ?_
  refine zG 5 rfl rfl rfl (by kernel_rfl) (fun _ _ _ h => h) (H.sub x10r) (r_move rfl) rfl ?_
  refine zG 6 rfl rfl rfl (by kernel_rfl) (fun _ _ _ h => h) (H.sub x10r) (r_eql rfl rfl) rfl ?_
  refine d_part (fun h23 => ?_) (fun h23 => ?_)
  ·refine zd 7 rfl (by kernel_rfl) (fun _ _ _ h => h) (H.sub x10r) (r_pickt rfl rfl) rfl ?_
   refine zM 8 (H.sub x10r) ?_
   refine zGh 9 rfl rfl rfl (by kernel_rfl) (fun _ _ _ h => h) (H.sub x10r) (fun HS => zp qg43 qs43 (HS.at 0 rfl) (ceC_td _)) rfl ?_
   refine zl1 10 ?_
   refine b_call rfl (go_some rfl rfl) (r_call Try.call46 (ec rfl en)) (moment_spec _ _) rfl ?_
   rintro v w ⟨rfl, HC⟩
   replace H := H.quiet HC
   refine ⟨(H.sub x10r), ?_⟩
   refine zd 11 rfl (by kernel_rfl) (fun _ _ _ h => h) (H.sub x10r) (r_pickt rfl rfl) rfl ?_
   refine zl1 12 ?_
   refine b_st rfl go_none (zs H 1 11 qs43) (L' := (_ :: _ :: _)) rfl rfl (fun _ H => (H.sub x10r)) ?_
   intro w H
   refine zd 13 rfl (by kernel_rfl) (fun _ _ _ h => h) (H.sub x10r) (r_assign rfl) rfl ?_
   refine zz (t20 (t9 [])) ?_
   refine x_thenNormal ?_
   refine wp_ret ?_
   refine zw (rc_two rfl (ro qg43 qs43 (H.at 1 rfl)) (rc_tmp rfl)) ?_
   exact .inl ⟨y, No, hfd, rfl, hNo, H.sub (.cons _ (.cons _ (List.Sublist.refl _)))⟩
  ·exact absurd (findP_num hfd) h23
 ·replace H : St w0 [] w (_ :: []) := H.quiet HC
  refine zm ?_
  refine ze ?_
  refine ze ?_
  refine s_new (zA (ceC ce0) H qo43) ?_
  intro w b6 H
  refine s_st (zs H 0 11 qs43) (L' := (_ :: _ :: _)) rfl ?_
  intro w H
  refine za ?_
  refine zc (t20 (t9 [])) ?_
  refine c_seq ?_
  refine d_begin (sz := 29) ⟨rfl, rfl⟩ (by kernel_rfl) H (H.sub x10r) rfl ?_
  intro w H
  refine zdh 0 rfl (by kernel_rfl) (fun _ _ _ h => h) (H.sub x10r) (fun HS => zp qg43 qs43 (HS.at 0 rfl) (ceC_td _)) rfl ?_
  refine zM 1 (H.sub x10r) ?_
  refine zM 2 (H.sub x10r) ?_
  refine zN 3 (H.sub x10r) ?_
  refine zN 4 (H.sub x10r) ?_
  refine zN 5 (H.sub x10r) ?_
  refine zN 6 (H.sub x10r) ?_
  refine zd 7 rfl (by kernel_rfl) (fun _ _ _ h => h) (H.sub x10r) (r_pickf rfl rfl) rfl ?_
  refine zM 8 (H.sub x10r) ?_
  refine zN 9 (H.sub x10r) ?_
  refine zN 10 (H.sub x10r) ?_
  refine zd 11 rfl (by kernel_rfl) (fun _ _ _ h => h) (H.sub x10r) (r_pickf rfl rfl) rfl ?_
  refine zl1 12 ?_
  refine b_st rfl go_none (zs H 1 11 qs43) (L' := (_ :: _ :: _)) rfl rfl (fun _ H => (H.sub x10r)) ?_
  intro w H
  refine zd 13 rfl (by kernel_rfl) (fun _ _ _ h => h) (H.sub x10r) (r_assign rfl) rfl ?_
  refine zz (t20 (t9 [])) ?_
  refine x_thenNormal ?_
  refine wp_ret ?_
  refine zw (rc_two rfl (ro qg43 qs43 (H.at 1 rfl)) (rc_tmp rfl)) ?_
  exact .inr ⟨hfd, rfl, (H.sub (List.nil_sublist _))⟩

end Go.Proofs.Ytobfnieebiakeaa

