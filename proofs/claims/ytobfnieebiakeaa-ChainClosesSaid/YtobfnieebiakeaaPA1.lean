import Derived.Test.YtobfnieebiakeaaPM
import Derived.Test.YtobfnieebiakeaaPJ1
import Derived.Test.YtobfnieebiakeaaPX1
import Derived.Test.YtobfnieebiakeaaPVx2
namespace Go.Proofs.Ytobfnieebiakeaa
open Go Go.Er
theorem keyT24 : KeyT Try.prog 24 := ⟨by kernel_rfl, 5, Try.underlying24, Try.underlying5, qs5⟩

set_option maxHeartbeats 4000000 in
theorem moment_spec (y : Ce) (w0 : World) :
  Calls Try.prog 46 #[.agg (ceC y).toArray] w0 fun e w => ∃ v, e = .returned v ∧ (v = .bool (momK y.kind) ∧ St w0 [] w []) := by
 have H := St.refl w0
 refine c_enter (args := [.agg (ceC y).toArray]) (l := t10 (t6 [])) Try.func46 Try.ntmps46 rfl rfl ?_
 refine zq 16 ⟨rfl, rfl⟩ ?_
 refine s_new (m_box (cs := (ceC y)) H rfl rfl) ?_
 intro w b1 H
 refine za ?_
 refine zc (t10 (t6 [])) ?_
 refine zq 16 ⟨rfl, rfl⟩ ?_
 refine zR 0 qu43 qs3 ?_
 refine s_val (r_load1 qg3 rfl (H.at 0 rfl) (rfl : _ = some (Value.int .i64 y.kind))) ?_
 refine s_test (r_eql rfl rfl) (fun h5 => ?_) (fun h5 => ?_)
 ·refine zm ?_
  refine zg ?_
  refine zg ?_
  refine zg ?_
  refine zv ?_
  refine zm ?_
  refine zg ?_
  refine zg ?_
  refine zg ?_
  refine zv ?_
  refine za ?_
  refine zc (t10 (t6 [])) ?_
  refine wp_ret ?_
  refine zw (res1 rfl rfl) ?_
  exact ⟨by rw [momK_yes (.inl h5)], (H.sub (List.nil_sublist _))⟩
 ·refine zm ?_
  refine zy ?_
  refine zR 0 qu43 qs3 ?_
  refine zy ?_
  refine s_val (r_load1 qg3 rfl (H.at 0 rfl) (rfl : _ = some (Value.int .i64 y.kind))) ?_
  refine zy ?_
  refine s_test (r_eql rfl rfl) (fun h9 => ?_) (fun h9 => ?_)
  ·refine zf ?_
   refine zm ?_
   refine zg ?_
   refine zg ?_
   refine zg ?_
   refine zv ?_
   refine za ?_
   refine zc (t10 (t6 [])) ?_
   refine wp_ret ?_
   refine zw (res1 rfl rfl) ?_
   exact ⟨by rw [momK_yes (.inr (.inl h9))], (H.sub (List.nil_sublist _))⟩
  ·refine zf ?_
   refine zm ?_
   refine zy ?_
   refine zR 0 qu43 qs3 ?_
   refine zy ?_
   refine s_val (r_load1 qg3 rfl (H.at 0 rfl) (rfl : _ = some (Value.int .i64 y.kind))) ?_
   refine zy ?_
   refine s_test (r_eql rfl rfl) (fun h14 => ?_) (fun h14 => ?_)
   ·refine zf ?_
    refine za ?_
    refine zc (t10 (t6 [])) ?_
    refine wp_ret ?_
    refine zw (res1 rfl rfl) ?_
    exact ⟨by rw [momK_yes (.inr (.inr h14))], (H.sub (List.nil_sublist _))⟩
   ·refine zf ?_
    refine za ?_
    refine zc (t10 (t6 [])) ?_
    refine wp_ret ?_
    refine zw (res1 rfl rfl) ?_
    exact ⟨by rw [momK_no h5 h9 h14], (H.sub (List.nil_sublist _))⟩

set_option maxHeartbeats 4000000 in
theorem leaf_spec (n : Int) (w0 : World) :
  Calls Try.prog 16 #[.int .u64 n] w0 fun e w => ∃ v, e = .returned v ∧ (v = .int .u64 (lf n) ∧ St w0 [] w []) := by
 have H := St.refl w0
 refine c_enter (args := [.int .u64 n]) (l := t5 []) Try.func16 Try.ntmps16 rfl rfl ?_
 refine zq 5 ⟨rfl, rfl⟩ ?_
 refine za ?_
 refine zc (t5 []) ?_
 refine zq 5 ⟨rfl, rfl⟩ ?_
 refine zm ?_
 refine s_val (r_mul rfl rfl (show _ = lf n from w_u64' _)) ?_
 refine za ?_
 refine zc (t5 []) ?_
 refine wp_ret ?_
 refine zw (res1 rfl rfl) ?_
 exact ⟨rfl, H⟩

set_option maxHeartbeats 4000000 in
theorem nonce_spec (y : Ce) (h0 : 0 ≤ y.ref) (h1 : y.ref ≤ 65535) (h2 : 0 ≤ y.num) (h3 : y.num ≤ 65535) (w0 : World) :
  Calls Try.prog 24 #[.agg (ceC y).toArray] w0 fun e w => ∃ v, e = .returned v ∧ (v = .int .u64 (y.num + y.ref * 4294967296) ∧ St w0 [] w []) := by
 have H := St.refl w0
 refine c_enter (args := [.agg (ceC y).toArray]) (l := t9 []) Try.func24 Try.ntmps24 rfl rfl ?_
 refine zq 9 ⟨rfl, rfl⟩ ?_
 refine s_new (m_box (cs := (ceC y)) H rfl rfl) ?_
 intro w b1 H
 refine za ?_
 refine zc (t9 []) ?_
 refine zq 9 ⟨rfl, rfl⟩ ?_
 refine zR 1 qu43 qs28 ?_
 refine s_val (r_load1 qg28 rfl (H.at 0 rfl) (rfl : _ = some (Value.int .u64 y.num))) ?_
 refine zR 6 qu43 qs28 ?_
 refine s_val (r_load1 qg28 rfl (H.at 0 rfl) (rfl : _ = some (Value.int .u64 y.ref))) ?_
 refine s_val (r_shl rfl rfl (by omega) (shl32 h0 h1)) ?_
 refine s_val (r_add rfl rfl v6) ?_
 refine za ?_
 refine zc (t9 []) ?_
 refine wp_ret ?_
 refine zw (res1 rfl rfl) ?_
 exact ⟨rfl, (H.sub (List.nil_sublist _))⟩

set_option maxHeartbeats 4000000 in
theorem lpad_spec (k : Key) (n : Int) (hn0 : 1 ≤ n) (hn1 : n < 18446744073709551616) (w0 : World) :
  Calls Try.prog 121 #[.agg litC.toArray, .agg (kC k).toArray, .int .u64 n] w0 fun e w => ∃ v, e = .returned v ∧ (v = .agg (kC (padB k n)).toArray ∧ St w0 [] w []) := by
 have H := St.refl w0
 refine c_enter (args := [.agg litC.toArray, .agg (kC k).toArray, .int .u64 n]) (l := t30 (t6 [])) Try.func121 Try.ntmps121 rfl rfl ?_
 refine zq 36 ⟨rfl, rfl⟩ ?_
 refine s_new (m_box (cs := litC) H rfl rfl) ?_
 intro w b3 H
 refine s_new (m_box (cs := (kC k)) H rfl rfl) ?_
 intro w b4 H
 refine s_new (zA (kC (By.zero 32)) H qo44) ?_
 intro w b6 H
 refine zc (t30 (t6 [])) ?_
 refine zq 36 ⟨rfl, rfl⟩ ?_
 refine s_val (zo qg24 qs24 (H.at 1 rfl)) ?_
 refine zm ?_
 refine s_call (r_call qc23 (ec rfl (ec rfl en))) (pad_spec k n (by omega) hn1 _) ?_
 rintro v w ⟨rfl, HC⟩
 replace H := H.quiet HC
 refine s_new (zA (kC (By.zero 32)) H qo44) ?_
 intro w b7 H
 refine s_st (zs H 0 32 qs44) (L' := [_,_,_,_]) rfl ?_
 intro w H
 refine zc (t30 (t6 [])) ?_
 refine c_seq ?_
 refine zq 36 ⟨rfl, rfl⟩ ?_
 refine s_val (zo qg24 qs24 (H.at 2 rfl)) ?_
 refine zR 0 qu49 qs24 ?_
 refine s_val (zp qg24 qs24 (H.at 3 rfl) litC_key) ?_
 refine s_test (r_eqlK keyT24 rfl rfl) (fun h15 => ?_) (fun h15 => ?_)
 ·refine zm ?_
  refine zy ?_
  refine zm ?_
  refine zy ?_
  refine zR 32 qu49 qs28 ?_
  refine zy ?_
  refine s_val (r_load1 qg28 rfl (H.at 3 rfl) litC_n) ?_
  refine zy ?_
  refine s_test (r_eql rfl rfl) (fun h20 => ?_) (fun h20 => ?_)
  ·exfalso; omega
  ·refine zv ?_
   refine zc (t30 (t6 [])) ?_
   refine c_iff rfl ?_
   refine wp_skip ?_
   refine x_thenNormal ?_
   refine zq 36 ⟨rfl, rfl⟩ ?_
   refine s_val (zo qg44 qs44 (H.at 0 rfl)) ?_
   refine s_st (zs H 1 32 qs44) (L' := [_,_,_,_]) rfl ?_
   intro w H
   refine zc (t30 (t6 [])) ?_
   refine wp_ret ?_
   refine zw (rc_one rfl (ro qg44 qs44 (H.at 1 rfl))) ?_
   exact ⟨rfl, (H.sub (List.nil_sublist _))⟩
 ·refine zm ?_
  refine zg ?_
  refine zg ?_
  refine zg ?_
  refine zg ?_
  refine zf ?_
  refine zc (t30 (t6 [])) ?_
  refine c_iff rfl ?_
  refine wp_skip ?_
  refine x_thenNormal ?_
  refine zq 36 ⟨rfl, rfl⟩ ?_
  refine s_val (zo qg44 qs44 (H.at 0 rfl)) ?_
  refine s_st (zs H 1 32 qs44) (L' := [_,_,_,_]) rfl ?_
  intro w H
  refine zc (t30 (t6 [])) ?_
  refine wp_ret ?_
  refine zw (rc_one rfl (ro qg44 qs44 (H.at 1 rfl))) ?_
  exact ⟨rfl, (H.sub (List.nil_sublist _))⟩

set_option maxHeartbeats 4000000 in
theorem xor_spec (xa pa : Option Addr) (xc pc : Nat) (xs ps : List UInt8) (hx1 : xs.length ≤ ps.length) (hl : ps.length ≤ 1000000) (w0 : World) (hx : BRow w0 xa xs) (hp : BRow w0 pa ps) :
  Calls Try.prog 68 #[.slice xa xs.length xc, .slice pa ps.length pc] w0 fun e w => ∃ v, e = .returned v ∧ (∃ b2, v = .slice (some ⟨b2, 0, none⟩) xs.length xs.length ∧ St w0 [] w [(b2, .cells (bC (xorB ps xs)).toArray 5 (0, 0))]) := by
 have H := St.refl w0
 have hxl := xorB_length (p := ps) (b := xs) hx1
 refine c_enter (args := [.slice xa xs.length xc, .slice pa ps.length pc]) (l := t30 (t2 [])) Try.func68 Try.ntmps68 rfl rfl ?_
 refine zq 32 ⟨rfl, rfl⟩ ?_
 refine za ?_
 refine zc (t30 (t2 [])) ?_
 refine zq 32 ⟨rfl, rfl⟩ ?_
 refine zm ?_
 refine s_val (r_lens qu41 (ec rfl en)) ?_
 refine zm ?_
 refine s_val (r_lens qu41 (ec rfl en)) ?_
 refine s_val (r_minE (r := (xs.length : Int)) (ec rfl (ec rfl en)) (by split <;> omega)) ?_
 refine s_new (m_make (n := xs.length) (nb := 1) (v := .int .u8 0) H Try.underlying41 (by kernel_rfl) rfl rfl rfl rfl rfl (by omega) (by omega)) ?_
 intro w b12 H
 replace H : St w0 [] w [(b12, .cells (bC (mix (xorB ps xs) (List.replicate xs.length 0) 0)).toArray 5 (0, 0))] := by
  have e : List.replicate xs.length (Value.int .u8 0) = bC (mix (xorB ps xs) (List.replicate xs.length 0) 0) := by rw [mix_zero]; simp [bC]
  rw [← e]; exact H
 refine za ?_
 refine zc (t30 (t2 [])) ?_
 refine c_seq ?_
 refine zq 32 ⟨rfl, rfl⟩ ?_
 refine zm ?_
 refine s_val (r_lens qu41 (ec rfl en)) ?_
 refine zm ?_
 refine zc (t30 (t2 [])) ?_
 refine wp_block ?_
 refine c_loop (fun (l0 : List Value) (i : Nat) (l : List Value) (w : World) => ∃ (u6 u16 u17 u18 u19 u20 u21 u22 u23 u24 u25 u26 u27 u28 u29 u30 : Value) , l = ovr l0 [N_, N_, N_, N_, N_, N_, Y_ u6, N_, N_, N_, N_, N_, N_, N_, N_, Y_ (.int .i64 i), Y_ u16, Y_ u17, Y_ u18, Y_ u19, Y_ u20, Y_ u21, Y_ u22, Y_ u23, Y_ u24, Y_ u25, Y_ u26, Y_ u27, Y_ u28, Y_ u29, Y_ u30] ∧ i ≤ xs.length ∧ St w0 [] w [(b12, .cells (bC (mix (xorB ps xs) (List.replicate xs.length 0) i)).toArray 5 (0, 0))]) (fun (i : Nat) => xs.length - i) 0 ⟨_, _, _, _, _, _, _, _, _, _, _, _, _, _, _, _, rfl, Nat.zero_le _, H⟩ ?_
 intro i l w ⟨u6, u16, u17, u18, u19, u20, u21, u22, u23, u24, u25, u26, u27, u28, u29, u30, hl, hi, H⟩
 obtain rfl := hl.trans (rfl : _ = t30 (t2 []))
 clear hl
 refine zq 32 ⟨rfl, rfl⟩ ?_
 refine s_val (r_lss rfl rfl) ?_
 refine zc (t30 (t2 [])) ?_
 refine c_seq ?_
 refine c_if rfl (fun h16 => ?_) (fun h16 => ?_)
 ·obtain ⟨bx, ox, prex, postx, Tx, fx, rfl, hbx, hpx⟩ := hx (by omega)
  obtain ⟨bp, op, prep, postp, Tp, fp, rfl, hbp, hpp⟩ := hp (by omega)
  refine wp_skip ?_
  refine x_thenNormal ?_
  refine c_seq ?_
  refine wp_block ?_
  refine zq 32 ⟨rfl, rfl⟩ ?_
  refine zm ?_
  refine za ?_
  refine zc (t30 (t2 [])) ?_
  refine d_begin (sz := 32) ⟨rfl, rfl⟩ (by kernel_rfl) H (H.sub x0n) rfl ?_
  intro w H
  refine zM 0 (H.sub x0n) ?_
  refine zM 1 (H.sub x0n) ?_
  refine zM 2 (H.sub x0n) ?_
  refine zM 3 (H.sub x0n) ?_
  refine zd 4 rfl (by kernel_rfl) (fun _ _ _ h => h) (H.sub x0n) (ziS qu41 qs5) rfl ?_
  refine zdh 5 rfl (by kernel_rfl) (fun _ _ _ h => h) (H.sub x0n) (fun HS => r_load1 qg5 rfl (HS.rd0 hbx) (bs_getE _ xs _ i hpx (by omega) (by omega))) rfl ?_
  refine zM 6 (H.sub x0n) ?_
  refine zM 7 (H.sub x0n) ?_
  refine zd 8 rfl (by kernel_rfl) (fun _ _ _ h => h) (H.sub x0n) (ziS qu41 qs5) rfl ?_
  refine zdh 9 rfl (by kernel_rfl) (fun _ _ _ h => h) (H.sub x0n) (fun HS => r_load1 qg5 rfl (HS.rd0 hbp) (bs_getE _ ps _ i hpp (by omega) (by omega))) rfl ?_
  refine zd 10 rfl (by kernel_rfl) (fun _ _ _ h => h) (H.sub x0n) (r_xor rfl rfl (xor_u8 _ _)) rfl ?_
  refine zd 11 rfl (by kernel_rfl) (fun _ _ _ h => h) (H.sub x0n) (ziS qu41 qs5) rfl ?_
  refine zl1 12 ?_
  refine b_st rfl go_none (m_store1 H 0 qs5 rfl rfl rfl rfl (by rw [bC_length, mix_length _ _ (by rw [hxl, List.length_replicate]), List.length_replicate]; omega) (mix_set _ _ i (by rw [hxl, List.length_replicate]) (by rw [List.length_replicate]; omega) (by omega) (by rw [xorB_getD (by omega) (by omega)]))) (L' := [_]) rfl rfl (fun _ H => (H.sub x0n)) ?_
  intro w H
  refine zz (t30 (t2 [])) ?_
  refine x_blockNormal ?_
  refine x_thenNormal ?_
  refine c_region (n := 32) ⟨rfl, rfl⟩ ?_
  refine zj ?_
  refine zm ?_
  refine zb (t30 (t2 [])) ?_
  exact ⟨i + 1, _, rfl, ⟨_, _, _, _, _, _, _, _, _, _, _, _, _, _, _, _, rfl, by omega, H⟩, by omega⟩
 ·obtain rfl : i = xs.length := by omega
  rw [mix_all _ _ hxl (List.length_replicate ..)] at H
  refine wp_exit (x_thenExit (x_thenExit (x_blockHit ?_)))
  refine x_thenNormal ?_
  refine zq 32 ⟨rfl, rfl⟩ ?_
  refine zm ?_
  refine za ?_
  refine zc (t30 (t2 [])) ?_
  refine wp_ret ?_
  refine zw (res1 rfl rfl) ?_
  exact ⟨b12, rfl, H⟩

theorem xor_l (xa pa : Option Addr) (xc pc m : Nat) (xs ps : List UInt8) (hx1 : xs.length ≤ ps.length) (hm : m = ps.length) (hl : ps.length ≤ 1000000) (w0 : World) (hx : BRow w0 xa xs) (hp : BRow w0 pa ps) :
  Calls Try.prog 68 #[.slice xa xs.length xc, .slice pa m pc] w0 fun e w => ∃ v, e = .returned v ∧ ∃ b2, v = .slice (some ⟨b2, 0, none⟩) xs.length xs.length ∧ St w0 [] w [(b2, .cells (bC (xorB ps xs)).toArray 5 (0, 0))] := by
 subst hm
 exact xor_spec xa pa xc pc xs ps hx1 hl w0 hx hp

set_option maxHeartbeats 4000000 in
theorem hide_spec (k : Key) (n : Int) (a : Option Addr) (c : Nat) (xs : List UInt8) (hn0 : 1 ≤ n) (hn1 : n < 18446744073709551616) (hl : xs.length ≤ 32) (w0 : World) (hx : BRow w0 a xs) :
  Calls Try.prog 49 #[(.iface 49 (.agg litC.toArray)), .agg (kC k).toArray, .int .u64 n, .slice a xs.length c] w0 fun e w => ∃ v, e = .returned v ∧ (∃ b2, v = .slice (some ⟨b2, 0, none⟩) xs.length xs.length ∧ St w0 [] w [(b2, .cells (bC (xorB (padB k n).1 xs)).toArray 5 (0, 0))]) := by
 have H := St.refl w0
 refine c_enter (args := [(.iface 49 (.agg litC.toArray)), .agg (kC k).toArray, .int .u64 n, .slice a xs.length c]) (l := t20 (t4 [])) Try.func49 Try.ntmps49 rfl rfl ?_
 refine zq 24 ⟨rfl, rfl⟩ ?_
 refine s_new (m_box (cs := (kC k)) H rfl rfl) ?_
 intro w b5 H
 refine za ?_
 refine zc (t20 (t4 [])) ?_
 refine c_seq ?_
 refine zq 24 ⟨rfl, rfl⟩ ?_
 refine zm ?_
 refine s_val (r_nili Try.runUnderlying76 rfl rfl) ?_
 refine zm ?_
 refine zy ?_
 refine zm ?_
 refine zy ?_
 refine s_val (r_lens qu41 (ec rfl en)) ?_
 refine zy ?_
 refine s_test (r_gtr rfl rfl) (fun h15 => ?_) (fun h15 => ?_)
 ·exfalso; omega
 ·refine zf ?_
  refine zc (t20 (t4 [])) ?_
  refine c_iff rfl ?_
  refine wp_skip ?_
  refine x_thenNormal ?_
  refine zq 24 ⟨rfl, rfl⟩ ?_
  refine zm ?_
  refine s_val (zo qg24 qs24 (H.at 0 rfl)) ?_
  refine zm ?_
  refine s_call (r_invoke Try.call121 rfl (fun _ => by kernel_rfl) (ec rfl (ec rfl en))) (lpad_spec k n hn0 hn1 _) ?_
  rintro v w ⟨rfl, HC⟩
  replace H := H.quiet HC
  refine s_new (zA (kC (By.zero 32)) H qo44) ?_
  intro w b9 H
  refine s_st (zs H 0 32 qs44) (L' := (_ :: _ :: _)) rfl ?_
  intro w H
  refine zc (t20 (t4 [])) ?_
  refine zq 24 ⟨rfl, rfl⟩ ?_
  refine zm ?_
  refine s_val (r_sliceA qu44 qs5 rfl) ?_
  refine s_call (r_call Try.call68 (ec rfl (ec rfl en))) (xor_l a _ c _ _ xs (padB k n).1 (by rw [(padB k n).2]; exact hl) (padB k n).2.symm (by rw [(padB k n).2]; decide) _ (hx.st (H.sub (List.nil_sublist _))) (fun _ => ⟨b9, 0, [], [], _, _, rfl, (by rw [List.nil_append, List.append_nil]; exact H.at 0 rfl), rfl⟩)) ?_
  rintro v w ⟨b2, rfl, HC⟩
  replace H := H.call0 HC
  refine za ?_
  refine zc (t20 (t4 [])) ?_
  refine wp_ret ?_
  refine zw (res1 rfl rfl) ?_
  exact ⟨b2, rfl, H.sub (.cons_cons _ (List.nil_sublist _))⟩

end Go.Proofs.Ytobfnieebiakeaa

