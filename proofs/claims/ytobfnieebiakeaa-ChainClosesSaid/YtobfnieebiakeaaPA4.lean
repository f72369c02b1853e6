import Derived.Test.YtobfnieebiakeaaPM
import Derived.Test.YtobfnieebiakeaaPA3
namespace Go.Proofs.Ytobfnieebiakeaa
open Go Go.Er
theorem bytes28 : Try.t28.bytes = 8 := rfl

set_option maxHeartbeats 4000000 in
theorem write_spec (bg : Nat) (cl : List Ce) (n : Int) (hl : cl.length ≤ 1000000) (hb : ∀ y ∈ cl, y.body.b.length ≤ 1000000) (w0 : World) (hg : GetW w0 bg cl) :
  Calls Try.prog 26 #[(.func (.func 27) #[] #[.pointer (some ⟨bg, 0, none⟩)]), .int .u64 n] w0 fun e w => ∃ v, e = .returned v ∧ ((∃ (y : Ce) (N : List (Nat × Obj)), (findP (cl.map ceP)) n = some (ceP y) ∧ momK y.kind = true ∧ rightC (ceP y) ∧ v = .tuple #[.agg (ceC y).toArray, .bool true] ∧ St w0 [] w N) ∨ (∃ (y : Ce) (N : List (Nat × Obj)), v = .tuple #[.agg (ceC y).toArray, .bool false] ∧ (∀ c, (findP (cl.map ceP)) n = some c → ¬ (momK c.kind = true ∧ rightC c)) ∧ St w0 [] w N)) := by
 have H := St.refl w0
 refine c_enter (args := [(.func (.func 27) #[] #[.pointer (some ⟨bg, 0, none⟩)]), .int .u64 n]) (l := t20 []) Try.func26 Try.ntmps26 rfl rfl ?_
 refine zq 20 ⟨rfl, rfl⟩ ?_
 refine s_new (zA (ceC ce0) H qo43) ?_
 intro w b4 H
 refine za ?_
 refine zc (t20 []) ?_
 refine zq 20 ⟨rfl, rfl⟩ ?_
 refine zm ?_
 refine zm ?_
 refine s_call (r_call Try.call28 (ec rfl (ec rfl en))) (told3 bg cl n hl hb _ (hg.st (H.sub (List.nil_sublist _)))) ?_
 rintro v w (⟨y, No, hfd, hm, rfl, hNo, HC⟩ | ⟨y, No, hfd, hm, rfl, hNo, HC⟩ | ⟨hfd, rfl, HC⟩)
 ·replace H : St w0 [] w (_ :: No) := (H.call0 HC).perm (List.perm_append_comm (l₁ := [_]) (l₂ := No))
  refine zm ?_
  refine ze ?_
  refine ze ?_
  refine s_new (zA (ceC ce0) H qo43) ?_
  intro w b6 H
  refine s_st (zs H 0 11 qs43) (L' := (_ :: _ :: _)) rfl ?_
  intro w H
  refine za ?_
  refine zc (t20 []) ?_
  refine c_seq ?_
  refine d_begin (sz := 20) ⟨rfl, rfl⟩ (by kernel_rfl) H (H.sub x10r) rfl ?_
  intro w H
  refine zdh 0 rfl (by kernel_rfl) (fun _ _ _ h => h) (H.sub x10r) (fun HS => zp qg43 qs43 (HS.at 0 rfl) (ceC_td _)) rfl ?_
  refine zM 1 (H.sub x10r) ?_
  refine zM 2 (H.sub x10r) ?_
  refine zGh 3 rfl rfl rfl (by kernel_rfl) (fun _ _ _ h => h) (H.sub x10r) (fun HS => zp qg43 qs43 (HS.at 0 rfl) (ceC_td _)) rfl ?_
  refine zl1 4 ?_
  refine b_call rfl (go_some rfl rfl) (r_call Try.call45 (ec rfl en)) (right_d y _ (hNo.browM H (fun p hp => List.mem_cons_of_mem _ (List.mem_cons_of_mem _ hp)))) rfl ?_
  rintro v w ⟨rfl, HC⟩
  replace H := H.quiet HC
  refine ⟨(H.sub x10r), ?_⟩
  refine zd 5 rfl (by kernel_rfl) (fun _ _ _ h => h) (H.sub x10r) (r_pickt rfl rfl) rfl ?_
  refine zl1 6 ?_
  refine b_st rfl go_none (zs H 1 11 qs43) (L' := (_ :: _ :: _)) rfl rfl (fun _ H => (H.sub x10r)) ?_
  intro w H
  refine zd 7 rfl (by kernel_rfl) (fun _ _ _ h => h) (H.sub x10r) (r_assign rfl) rfl ?_
  refine zz (t20 []) ?_
  refine x_thenNormal ?_
  refine wp_ret ?_
  refine zw (rc_two rfl (ro qg43 qs43 (H.at 1 rfl)) (rc_tmp rfl)) ?_
  rcases Decidable.em (rightC (ceP y)) with hrt | hrt
  ·exact .inl ⟨y, No, hfd, hm, hrt, by rw [decide_eq_true hrt], H.sub (.cons _ (.cons _ (List.Sublist.refl _)))⟩
  ·refine .inr ⟨y, No, by rw [decide_eq_false hrt], fun c hc h => ?_, H.sub (.cons _ (.cons _ (List.Sublist.refl _)))⟩
   rw [hfd] at hc
   injection hc with hc
   subst hc
   exact hrt h.2
 ·replace H : St w0 [] w (_ :: No) := (H.call0 HC).perm (List.perm_append_comm (l₁ := [_]) (l₂ := No))
  refine zm ?_
  refine ze ?_
  refine ze ?_
  refine s_new (zA (ceC ce0) H qo43) ?_
  intro w b6 H
  refine s_st (zs H 0 11 qs43) (L' := (_ :: _ :: _)) rfl ?_
  intro w H
  refine za ?_
  refine zc (t20 []) ?_
  refine c_seq ?_
  refine d_begin (sz := 20) ⟨rfl, rfl⟩ (by kernel_rfl) H (H.sub x10r) rfl ?_
  intro w H
  refine zdh 0 rfl (by kernel_rfl) (fun _ _ _ h => h) (H.sub x10r) (fun HS => zp qg43 qs43 (HS.at 0 rfl) (ceC_td _)) rfl ?_
  refine zM 1 (H.sub x10r) ?_
  refine zM 2 (H.sub x10r) ?_
  refine zN 3 (H.sub x10r) ?_
  refine zN 4 (H.sub x10r) ?_
  refine zd 5 rfl (by kernel_rfl) (fun _ _ _ h => h) (H.sub x10r) (r_pickf rfl rfl) rfl ?_
  refine zl1 6 ?_
  refine b_st rfl go_none (zs H 1 11 qs43) (L' := (_ :: _ :: _)) rfl rfl (fun _ H => (H.sub x10r)) ?_
  intro w H
  refine zd 7 rfl (by kernel_rfl) (fun _ _ _ h => h) (H.sub x10r) (r_assign rfl) rfl ?_
  refine zz (t20 []) ?_
  refine x_thenNormal ?_
  refine wp_ret ?_
  refine zw (rc_two rfl (ro qg43 qs43 (H.at 1 rfl)) (rc_tmp rfl)) ?_
  refine .inr ⟨y, No, rfl, fun c hc h => ?_, H.sub (.cons _ (.cons _ (List.Sublist.refl _)))⟩
  rw [hfd] at hc
  injection hc with hc
  subst hc
  exact absurd (hm.symm.trans h.1) (by decide)
 ·replace H : St w0 [] w (_ :: []) := H.quiet HC
  refine zm ?_
  refine ze ?_
  refine ze ?_
  refine s_new (zA (ceC ce0) H qo43) ?_
  intro w b6 H
  refine s_st (zs H 0 11 qs43) (L' := (_ :: _ :: _)) rfl ?_
  intro w H
  refine za ?_
  refine zc (t20 []) ?_
  refine c_seq ?_
  refine d_begin (sz := 20) ⟨rfl, rfl⟩ (by kernel_rfl) H (H.sub x10r) rfl ?_
  intro w H
  refine zdh 0 rfl (by kernel_rfl) (fun _ _ _ h => h) (H.sub x10r) (fun HS => zp qg43 qs43 (HS.at 0 rfl) (ceC_td _)) rfl ?_
  refine zM 1 (H.sub x10r) ?_
  refine zM 2 (H.sub x10r) ?_
  refine zN 3 (H.sub x10r) ?_
  refine zN 4 (H.sub x10r) ?_
  refine zd 5 rfl (by kernel_rfl) (fun _ _ _ h => h) (H.sub x10r) (r_pickf rfl rfl) rfl ?_
  refine zl1 6 ?_
  refine b_st rfl go_none (zs H 1 11 qs43) (L' := (_ :: _ :: _)) rfl rfl (fun _ H => (H.sub x10r)) ?_
  intro w H
  refine zd 7 rfl (by kernel_rfl) (fun _ _ _ h => h) (H.sub x10r) (r_assign rfl) rfl ?_
  refine zz (t20 []) ?_
  refine x_thenNormal ?_
  refine wp_ret ?_
  refine zw (rc_two rfl (ro qg43 qs43 (H.at 1 rfl)) (rc_tmp rfl)) ?_
  refine .inr ⟨ce0, [], rfl, fun c hc => ?_, (H.sub (List.nil_sublist _))⟩
  rw [hfd] at hc
  cases hc

set_option maxHeartbeats 4000000 in
theorem needs_spec (bg : Nat) (cl : List Ce) (n : Int) (hl : cl.length ≤ 1000000) (hb : ∀ y ∈ cl, y.body.b.length ≤ 1000000) (w0 : World) (hg : GetW w0 bg cl) :
  Calls Try.prog 12 #[(.func (.func 27) #[] #[.pointer (some ⟨bg, 0, none⟩)]), .int .u64 n] w0 fun e w => ∃ v, e = .returned v ∧ (∃ (a2 : Option Addr) (c2 : Nat) (N : List (Nat × Obj)), v = .slice a2 (needF (findP (cl.map ceP)) 4 n).length c2 ∧ RowN 1 28 (uC (needF (findP (cl.map ceP)) 4 n)) (needF (findP (cl.map ceP)) 4 n).length a2 c2 N ∧ St w0 [] w N) := by
 have H := St.refl w0
 refine c_enter (args := [(.func (.func 27) #[] #[.pointer (some ⟨bg, 0, none⟩)]), .int .u64 n]) (l := t30 (t1 [])) Try.func12 Try.ntmps12 rfl rfl ?_
 refine zq 31 ⟨rfl, rfl⟩ ?_
 refine za ?_
 refine zc (t30 (t1 [])) ?_
 refine zq 31 ⟨rfl, rfl⟩ ?_
 refine za ?_
 refine zc (t30 (t1 [])) ?_
 refine c_seq ?_
 refine wp_block ?_
 refine c_loop (fun (l0 : List Value) (k : Nat) (l : List Value) (w : World) => ∃ (u6 u7 u8 u9 u10 u11 u12 u13 u14 u15 u16 u17 u18 u19 u20 u21 u22 u23 u24 u25 u26 u27 u28 u29 : Value) (ns : List Int) (m : Int) (a3 : Option Addr) (c3 : Nat) (N : List (Nat × Obj)), l = ovr l0 [N_, Y_ (.int .u64 m), N_, N_, N_, Y_ (.slice a3 ns.length c3), Y_ u6, Y_ u7, Y_ u8, Y_ u9, Y_ u10, Y_ u11, Y_ u12, Y_ u13, Y_ u14, Y_ u15, Y_ u16, Y_ u17, Y_ u18, Y_ u19, Y_ u20, Y_ u21, Y_ u22, Y_ u23, Y_ u24, Y_ u25, Y_ u26, Y_ u27, Y_ u28, Y_ u29] ∧ k = ns.length ∧ ns.length ≤ 4 ∧ needF (findP (cl.map ceP)) 4 n = ns ++ needF (findP (cl.map ceP)) (4 - ns.length) m ∧ RowN 1 28 (uC ns) ns.length a3 c3 N ∧ St w0 [] w (N)) (fun (k : Nat) => 4 - k) 0 ⟨_, _, _, _, _, _, _, _, _, _, _, _, _, _, _, _, _, _, _, _, _, _, _, _, [], n, none, 0, [], rfl, rfl, (by decide), rfl, RowN.nil, H⟩ ?_
 intro k l w ⟨u6, u7, u8, u9, u10, u11, u12, u13, u14, u15, u16, u17, u18, u19, u20, u21, u22, u23, u24, u25, u26, u27, u28, u29, ns, m, a3, c3, N, hl, hk, h4, hI, hR, H⟩
 obtain rfl := hl.trans (rfl : _ = t30 (t1 []))
 clear hl
 refine c_seq ?_
 refine zq 31 ⟨rfl, rfl⟩ ?_
 refine zm ?_
 refine s_val (r_lens qu25 (ec rfl en)) ?_
 refine s_val (r_lss rfl rfl) ?_
 refine zc (t30 (t1 [])) ?_
 refine c_if rfl (fun h10 => ?_) (fun h10 => ?_)
 ·refine wp_skip ?_
  refine x_thenNormal ?_
  refine wp_block ?_
  refine zq 31 ⟨rfl, rfl⟩ ?_
  refine zm ?_
  refine zm ?_
  refine s_call (r_call Try.call26 (ec rfl (ec rfl en))) (write_spec bg cl m hl hb _ (hg.st (H.sub (List.nil_sublist _)))) ?_
  rintro v w (⟨y, No, hfd, hm, hrt, rfl, HC⟩ | ⟨y, No, rfl, hno, HC⟩)
  ·replace H := (H.call0 HC).sub (List.sublist_append_right _ _)
   refine zm ?_
   refine ze ?_
   refine ze ?_
   refine s_new (zA (ceC ce0) H qo43) ?_
   intro w b6 H
   refine s_st (zs H 0 11 qs43) (L' := (_ :: _)) rfl ?_
   intro w H
   refine za ?_
   refine zc (t30 (t1 [])) ?_
   refine c_seq ?_
   refine zq 31 ⟨rfl, rfl⟩ ?_
   refine zm ?_
   refine s_val (r_not rfl) ?_
   refine zm ?_
   refine zy ?_
   refine zR 0 qu43 qs3 ?_
   refine zy ?_
   refine s_val (r_load1 qg3 rfl (H.at 0 rfl) (rfl : _ = some (Value.int .i64 y.kind))) ?_
   refine zy ?_
   refine s_test (r_eql rfl rfl) (fun h22 => ?_) (fun h22 => ?_)
   ·refine zf ?_
    refine zc (t30 (t1 [])) ?_
    refine c_ift rfl ?_
    refine wp_exit (x_thenExit (x_blockMiss (by decide) (x_thenExit (x_blockHit ?_))))
    refine x_thenNormal ?_
    refine zq 31 ⟨rfl, rfl⟩ ?_
    refine zm ?_
    refine za ?_
    refine zc (t30 (t1 [])) ?_
    refine wp_ret ?_
    refine zw (res1 rfl rfl) ?_
    have hz : needF (findP (cl.map ceP)) (4 - ns.length) m = [] := need_stop (fun c hc h => by rw [hfd] at hc; injection hc with hc; subst hc; exact h.2.2 h22)
    rw [hz, List.append_nil] at hI
    rw [hI]
    exact ⟨a3, c3, N, rfl, hR, H.sub (.cons _ (List.Sublist.refl _))⟩
   ·refine zf ?_
    refine zc (t30 (t1 [])) ?_
    refine c_iff rfl ?_
    refine wp_skip ?_
    refine x_thenNormal ?_
    refine zq 31 ⟨rfl, rfl⟩ ?_
    refine zR 6 qu43 qs28 ?_
    refine s_val (r_load1 qg28 rfl (H.at 0 rfl) (rfl : _ = some (Value.int .u64 y.ref))) ?_
    refine za ?_
    refine zc (t30 (t1 [])) ?_
    refine c_region (n := 31) ⟨rfl, rfl⟩ ?_
    refine zm ?_
    refine zm ?_
    refine s_new (m_bslice1 (vs := [.int .u64 y.ref]) H qu25 qs28 qo28 (by omega) (by omega) rfl rfl rfl) ?_
    intro w b28 H
    refine s_any (m_append_row0 (L1 := [_,_]) (N := N) H hR qu25 qu25 (fun _ h => nomatch h) qs28 qo28 rfl Try.typeInfo28 (by rw [bytes28]; omega) (by rw [bytes28]; omega) (ec rfl (ec rfl en)) (Src.slice (vs := [.int .u64 y.ref]) (H.at 0 rfl) rfl rfl (by intro v hv; rw [List.mem_singleton.1 hv]; rfl))) ?_
    rintro v w ⟨a5, c5, N5, rfl, hN5, H⟩
    replace H : St w0 [] w (_ :: _ :: N5) := H
    obtain ⟨ns2, hy2⟩ : ∃ x, x = ns ++ [y.ref] := ⟨_, rfl⟩
    have hll : ns2.length = ns.length + 1 := by rw [hy2, List.length_append]; rfl
    rw [← hll] at hN5 ⊢
    have hN6 : RowN 1 28 (uC ns2) ns2.length a5 c5 N5 := by
     have e : uC ns2 = uC ns ++ [.int .u64 y.ref] := by rw [hy2]; simp [uC]
     rw [e]; exact hN5
    have hI2 : needF (findP (cl.map ceP)) 4 n = ns2 ++ needF (findP (cl.map ceP)) (4 - ns2.length) y.ref := by
     obtain ⟨f, hf⟩ : ∃ f, 4 - ns.length = f + 1 := ⟨3 - ns.length, by omega⟩
     rw [hf, need_on hfd hm hrt h22] at hI
     rw [hI, hy2, List.append_assoc]
     have e : 4 - (ns ++ [y.ref]).length = f := by rw [List.length_append]; show 4 - (ns.length + 1) = f; omega
     rw [e]; rfl
    refine za ?_
    refine zb (t30 (t1 [])) ?_
    refine x_blockNormal ?_
    exact ⟨ns2.length, _, rfl, ⟨_, _, _, _, _, _, _, _, _, _, _, _, _, _, _, _, _, _, _, _, _, _, _, _, ns2, y.ref, a5, c5, N5, rfl, rfl, (by omega), hI2, hN6, (H.sub x00r)⟩, by omega⟩
  ·replace H := (H.call0 HC).sub (List.sublist_append_right _ _)
   refine zm ?_
   refine ze ?_
   refine ze ?_
   refine s_new (zA (ceC ce0) H qo43) ?_
   intro w b6 H
   refine s_st (zs H 0 11 qs43) (L' := (_ :: _)) rfl ?_
   intro w H
   refine za ?_
   refine zc (t30 (t1 [])) ?_
   refine c_seq ?_
   refine zq 31 ⟨rfl, rfl⟩ ?_
   refine zm ?_
   refine s_val (r_not rfl) ?_
   refine zm ?_
   refine zg ?_
   refine zg ?_
   refine zg ?_
   refine zv ?_
   refine zc (t30 (t1 [])) ?_
   refine c_ift rfl ?_
   refine wp_exit (x_thenExit (x_blockMiss (by decide) (x_thenExit (x_blockHit ?_))))
   refine x_thenNormal ?_
   refine zq 31 ⟨rfl, rfl⟩ ?_
   refine zm ?_
   refine za ?_
   refine zc (t30 (t1 [])) ?_
   refine wp_ret ?_
   refine zw (res1 rfl rfl) ?_
   have hz : needF (findP (cl.map ceP)) (4 - ns.length) m = [] := need_stop (fun c hc h => hno c hc ⟨h.1, h.2.1⟩)
   rw [hz, List.append_nil] at hI
   rw [hI]
   exact ⟨a3, c3, N, rfl, hR, H.sub (.cons _ (List.Sublist.refl _))⟩
 ·refine wp_exit (x_thenExit (x_thenExit (x_blockHit ?_)))
  refine x_thenNormal ?_
  refine zq 31 ⟨rfl, rfl⟩ ?_
  refine zm ?_
  refine za ?_
  refine zc (t30 (t1 [])) ?_
  refine wp_ret ?_
  refine zw (res1 rfl rfl) ?_
  have hz : needF (findP (cl.map ceP)) (4 - ns.length) m = [] := by rw [show 4 - ns.length = 0 by omega]; rfl
  rw [hz, List.append_nil] at hI
  rw [hI]
  exact ⟨a3, c3, N, rfl, hR, H⟩

set_option maxHeartbeats 4000000 in
theorem depth_spec (bg : Nat) (cl : List Ce) (n : Int) (hl : cl.length ≤ 1000000) (hb : ∀ y ∈ cl, y.body.b.length ≤ 1000000) (w0 : World) (hg : GetW w0 bg cl) :
  Calls Try.prog 18 #[(.func (.func 27) #[] #[.pointer (some ⟨bg, 0, none⟩)]), .int .u64 n] w0 fun e w => ∃ v, e = .returned v ∧ (v = .int .i64 ((needF (findP (cl.map ceP)) 4 n).length : Nat) ∧ St w0 [] w []) := by
 have H := St.refl w0
 refine c_enter (args := [(.func (.func 27) #[] #[.pointer (some ⟨bg, 0, none⟩)]), .int .u64 n]) (l := t9 []) Try.func18 Try.ntmps18 rfl rfl ?_
 refine zq 9 ⟨rfl, rfl⟩ ?_
 refine za ?_
 refine zc (t9 []) ?_
 refine zq 9 ⟨rfl, rfl⟩ ?_
 refine zm ?_
 refine zm ?_
 refine s_call (r_call qc12 (ec rfl (ec rfl en))) (needs_spec bg cl n hl hb _ (hg.st H)) ?_
 rintro v w ⟨a2, c2, N2, rfl, hN2, HC⟩
 replace H := H.call0 HC
 refine s_val (r_lens qu25 (ec rfl en)) ?_
 refine za ?_
 refine zc (t9 []) ?_
 refine wp_ret ?_
 refine zw (res1 rfl rfl) ?_
 exact ⟨rfl, (H.sub (List.nil_sublist _))⟩

end Go.Proofs.Ytobfnieebiakeaa

