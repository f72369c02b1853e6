import Derived.Test.YtobfnieebiakeaaGreatPM
import Derived.Test.YtobfnieebiakeaaGreatPH1
import Derived.Test.YtobfnieebiakeaaGreatPVx2
namespace Go.Proofs.YtobfnieebiakeaaGreat
open Go Go.Er

set_option maxHeartbeats 4000000 in
theorem told_nil (n : Int) (w0 : World) :
  Calls Tryz.prog 24 #[.nilFunc, .int .u64 n] w0 fun e w => ∃ v, e = .returned v ∧ (v = .tuple #[.agg (ceC ce0).toArray, .bool false] ∧ St w0 [] w []) := by
 have H := St.refl w0
 refine c_enter (args := [.nilFunc, .int .u64 n]) (l := t20 (t9 [])) Tryz.func24 Tryz.ntmps24 rfl rfl ?_
 refine zq 29 ⟨rfl, rfl⟩ ?_
 refine s_new (zA (ceC ce0) H qo65) ?_
 intro w b4 H
 refine za ?_
 refine zc (t20 (t9 [])) ?_
 refine c_seq ?_
 refine zq 29 ⟨rfl, rfl⟩ ?_
 refine zm ?_
 refine s_val (r_nilft Tryz.runUnderlying42 ⟨_, _, _, rfl⟩ rfl) ?_
 refine zc (t20 (t9 [])) ?_
 refine c_ift rfl ?_
 refine zq 29 ⟨rfl, rfl⟩ ?_
 refine s_val (r_buildS (zs := ceC ce0) (out := ceC ce0) qu65 qo65 places65 pn rfl) ?_
 refine s_st (zs H 0 11 qs65) (L' := [_]) rfl ?_
 intro w H
 refine za ?_
 refine zc (t20 (t9 [])) ?_
 refine wp_ret (x_thenRet ?_)
 refine zw (rc_two rfl (ro qg65 qs65 (H.at 0 rfl)) (rc_tmp rfl)) ?_
 exact ⟨rfl, (H.sub (List.nil_sublist _))⟩

set_option maxHeartbeats 4000000 in
theorem write_nil (n : Int) (w0 : World) :
  Calls Tryz.prog 35 #[.nilFunc, .int .u64 n] w0 fun e w => ∃ v, e = .returned v ∧ (v = .tuple #[.agg (ceC ce0).toArray, .bool false] ∧ St w0 [] w []) := by
 have H := St.refl w0
 refine c_enter (args := [.nilFunc, .int .u64 n]) (l := t20 []) Tryz.func35 Tryz.ntmps35 rfl rfl ?_
 refine zq 20 ⟨rfl, rfl⟩ ?_
 refine s_new (zA (ceC ce0) H qo65) ?_
 intro w b4 H
 refine za ?_
 refine zc (t20 []) ?_
 refine zq 20 ⟨rfl, rfl⟩ ?_
 refine zm ?_
 refine zm ?_
 refine s_call (r_call Tryz.call24 (ec rfl (ec rfl en))) (told_nil n _) ?_
 rintro v w ⟨rfl, HC⟩
 replace H := H.quiet HC
 refine zm ?_
 refine ze ?_
 refine ze ?_
 refine s_new (zA (ceC ce0) H qo65) ?_
 intro w b6 H
 refine s_st (zs H 0 11 qs65) (L' := [_,_]) rfl ?_
 intro w H
 refine za ?_
 refine zc (t20 []) ?_
 refine c_seq ?_
 refine d_begin (sz := 20) ⟨rfl, rfl⟩ (by kernel_rfl) H (H.sub x10n) rfl ?_
 intro w H
 refine zdh 0 rfl (by kernel_rfl) (fun _ _ _ h => h) (H.sub x10n) (fun HS => zp qg65 qs65 (HS.at 0 rfl) (ceC_td _)) rfl ?_
 refine zM 1 (H.sub x10n) ?_
 refine zM 2 (H.sub x10n) ?_
 refine zN 3 (H.sub x10n) ?_
 refine zN 4 (H.sub x10n) ?_
 refine zd 5 rfl (by kernel_rfl) (fun _ _ _ h => h) (H.sub x10n) (r_pickf rfl rfl) rfl ?_
 refine zl1 6 ?_
 refine b_st rfl go_none (zs H 1 11 qs65) (L' := [_,_]) rfl rfl (fun _ H => (H.sub x10n)) ?_
 intro w H
 refine zd 7 rfl (by kernel_rfl) (fun _ _ _ h => h) (H.sub x10n) (r_assign rfl) rfl ?_
 refine zz (t20 []) ?_
 refine x_thenNormal ?_
 refine wp_ret ?_
 refine zw (rc_two rfl (ro qg65 qs65 (H.at 1 rfl)) (rc_tmp rfl)) ?_
 exact ⟨rfl, (H.sub (List.nil_sublist _))⟩

set_option maxHeartbeats 4000000 in
theorem needs_nil (n : Int) (w0 : World) :
  Calls Tryz.prog 11 #[.nilFunc, .int .u64 n] w0 fun e w => ∃ v, e = .returned v ∧ (v = .slice none 0 0 ∧ St w0 [] w []) := by
 have H := St.refl w0
 refine c_enter (args := [.nilFunc, .int .u64 n]) (l := t30 (t1 [])) Tryz.func11 Tryz.ntmps11 rfl rfl ?_
 refine zq 31 ⟨rfl, rfl⟩ ?_
 refine za ?_
 refine zc (t30 (t1 [])) ?_
 refine zq 31 ⟨rfl, rfl⟩ ?_
 refine za ?_
 refine zc (t30 (t1 [])) ?_
 refine c_seq ?_
 refine wp_block ?_
 refine c_loop (fun (l0 : List Value) (k : Nat) (l : List Value) (w : World) => ∃ (u6 u7 u8 u9 u10 u11 u12 u13 u14 u15 u16 u17 u18 u19 u20 u21 u22 u23 u24 u25 u26 u27 u28 u29 : Value) , l = ovr l0 [N_, Y_ (.int .u64 n), N_, N_, N_, Y_ (.slice none 0 0), Y_ u6, Y_ u7, Y_ u8, Y_ u9, Y_ u10, Y_ u11, Y_ u12, Y_ u13, Y_ u14, Y_ u15, Y_ u16, Y_ u17, Y_ u18, Y_ u19, Y_ u20, Y_ u21, Y_ u22, Y_ u23, Y_ u24, Y_ u25, Y_ u26, Y_ u27, Y_ u28, Y_ u29] ∧ St w0 [] w []) (fun (k : Nat) => k) 0 ⟨_, _, _, _, _, _, _, _, _, _, _, _, _, _, _, _, _, _, _, _, _, _, _, _, rfl, H⟩ ?_
 intro k l w ⟨u6, u7, u8, u9, u10, u11, u12, u13, u14, u15, u16, u17, u18, u19, u20, u21, u22, u23, u24, u25, u26, u27, u28, u29, hl, H⟩
 obtain rfl := hl.trans (rfl : _ = t30 (t1 []))
 clear hl
 refine c_seq ?_
 refine zq 31 ⟨rfl, rfl⟩ ?_
 refine zm ?_
 refine s_val (r_lens qu25 (ec rfl en)) ?_
 refine s_val (r_lss rfl rfl) ?_
 refine zc (t30 (t1 [])) ?_
 refine c_if rfl (fun h10 => ?_) (fun h10 => ?_)
 ·refine wp_skip ?_
  refine x_thenNormal ?_
  refine wp_block ?_
  refine zq 31 ⟨rfl, rfl⟩ ?_
  refine zm ?_
  refine zm ?_
  refine s_call (r_call Tryz.call35 (ec rfl (ec rfl en))) (write_nil n _) ?_
  rintro v w ⟨rfl, HC⟩
  replace H := H.quiet HC
  refine zm ?_
  refine ze ?_
  refine ze ?_
  refine s_new (zA (ceC ce0) H qo65) ?_
  intro w b6 H
  refine s_st (zs H 0 11 qs65) (L' := [_]) rfl ?_
  intro w H
  refine za ?_
  refine zc (t30 (t1 [])) ?_
  refine c_seq ?_
  refine zq 31 ⟨rfl, rfl⟩ ?_
  refine zm ?_
  refine s_val (r_not rfl) ?_
  refine zm ?_
  refine zg ?_
  refine zg ?_
  refine zg ?_
  refine zv ?_
  refine zc (t30 (t1 [])) ?_
  refine c_ift rfl ?_
  refine wp_exit (x_thenExit (x_blockMiss (by decide) (x_thenExit (x_blockHit ?_))))
  refine x_thenNormal ?_
  refine zq 31 ⟨rfl, rfl⟩ ?_
  refine zm ?_
  refine za ?_
  refine zc (t30 (t1 [])) ?_
  refine wp_ret ?_
  refine zw (res1 rfl rfl) ?_
  exact ⟨rfl, (H.sub (List.nil_sublist _))⟩
 ·exfalso; omega

set_option maxHeartbeats 4000000 in
theorem depth_nil (n : Int) (w0 : World) :
  Calls Tryz.prog 15 #[.nilFunc, .int .u64 n] w0 fun e w => ∃ v, e = .returned v ∧ (v = .int .i64 0 ∧ St w0 [] w []) := by
 have H := St.refl w0
 refine c_enter (args := [.nilFunc, .int .u64 n]) (l := t9 []) Tryz.func15 Tryz.ntmps15 rfl rfl ?_
 refine zq 9 ⟨rfl, rfl⟩ ?_
 refine za ?_
 refine zc (t9 []) ?_
 refine zq 9 ⟨rfl, rfl⟩ ?_
 refine zm ?_
 refine zm ?_
 refine s_call (r_call qc11 (ec rfl (ec rfl en))) (needs_nil n _) ?_
 rintro v w ⟨rfl, HC⟩
 replace H := H.quiet HC
 refine s_val (r_lens qu25 (ec rfl en)) ?_
 refine za ?_
 refine zc (t9 []) ?_
 refine wp_ret ?_
 refine zw (res1 rfl rfl) ?_
 exact ⟨rfl, (H.sub (List.nil_sublist _))⟩

theorem close_nil (a : Option Addr) (c : Nat) (ns : List Int) (hn : ns.length ≤ 150) (w0 : World) (hr : URow w0 a ns) :
  Calls Tryz.prog 12 #[.nilFunc, .slice a ns.length c] w0 fun e w => ∃ v, e = .returned v ∧ (∃ (os : List Int) (a2 : Option Addr) (c2 : Nat) (N : List (Nat × Obj)), Rise os ∧ (∀ x, x ∈ os ↔ ClM (fun _ => []) ns x) ∧ v = .slice a2 os.length c2 ∧ RowN 1 28 (uC os) os.length a2 c2 N ∧ St w0 [] w N) :=
 closeg_spec .nilFunc (fun _ => []) [] a c ns (fun _ _ h => nomatch h) (fun _ => Nat.zero_le _) (by show ns.length + 0 < 256; omega) w0 (fun n w _ _ => (needs_nil n w).mono fun _ _ ⟨v, he, hv, H⟩ => ⟨v, he, none, 0, [], hv, RowN.nil, H⟩) hr

end Go.Proofs.YtobfnieebiakeaaGreat

