import Derived.Test.YtobfnieebiakeaaPM
import Derived.Test.YtobfnieebiakeaaProg
import Derived.Test.YtobfnieebiakeaaPVx1
namespace Go.Proofs.Ytobfnieebiakeaa
open Go Go.Er
set_option linter.unusedSimpArgs false in
theorem places88 : Places Try.prog #[⟨ "Depth", 3, 0, false, "", "", 0⟩, ⟨ "At", 28, 1, false, "", "", 8⟩, ⟨ "Seed", 24, 2, false, "", "", 16⟩] [(0, 1), (1, 1), (2, 32)] := fun w => by simp [qs24 w, qs28 w, qs3 w]
theorem bytesHeld : Try.t88.bytes = 48 := rfl

set_option maxHeartbeats 4000000 in
theorem many_spec (n : Int) (h0 : 0 ≤ n) (h1 : n ≤ 17) (w0 : World) :
  Calls Try.prog 52 #[.int .i64 n] w0 fun e w => ∃ v, e = .returned v ∧ (v = .int .u64 (many n) ∧ St w0 [] w []) := by
 have H := St.refl w0
 refine c_enter (args := [.int .i64 n]) (l := t7 []) Try.func52 Try.ntmps52 rfl rfl ?_
 refine zq 7 ⟨rfl, rfl⟩ ?_
 refine za ?_
 refine zc (t7 []) ?_
 refine zq 7 ⟨rfl, rfl⟩ ?_
 refine zm ?_
 refine zk ?_
 refine s_val (r_conv qu3 qu102 rfl v6) ?_
 refine s_val (r_shl rfl rfl (by omega) rfl) ?_
 refine za ?_
 refine zc (t7 []) ?_
 refine wp_ret ?_
 refine zw (res1 rfl rfl) ?_
 exact ⟨by rw [many_eq h0], H⟩

set_option maxHeartbeats 4000000 in
theorem isNaN_spec (n : Int) (w0 : World) :
  Calls Try.prog 58 #[.int .u64 n] w0 fun e w => ∃ v, e = .returned v ∧ (v = .bool false ∧ St w0 [] w []) := by
 have H := St.refl w0
 refine c_enter (args := [.int .u64 n]) (l := t6 []) Try.func58 Try.ntmps58 rfl rfl ?_
 refine zq 6 ⟨rfl, rfl⟩ ?_
 refine za ?_
 refine zc (t6 []) ?_
 refine zq 6 ⟨rfl, rfl⟩ ?_
 refine zm ?_
 refine zm ?_
 refine s_val (r_neq rfl rfl) ?_
 refine za ?_
 refine zc (t6 []) ?_
 refine wp_ret ?_
 refine zw (res1 rfl rfl) ?_
 exact ⟨by simp, H⟩

set_option maxHeartbeats 4000000 in
theorem compare_spec (m n : Int) (w0 : World) :
  Calls Try.prog 38 #[.int .u64 m, .int .u64 n] w0 fun e w => ∃ v, e = .returned v ∧ (v = .int .i64 (cmpI m n) ∧ St w0 [] w []) := by
 have H := St.refl w0
 refine c_enter (args := [.int .u64 m, .int .u64 n]) (l := t20 []) Try.func38 Try.ntmps38 rfl rfl ?_
 refine zq 20 ⟨rfl, rfl⟩ ?_
 refine za ?_
 refine zc (t20 []) ?_
 refine zq 20 ⟨rfl, rfl⟩ ?_
 refine zm ?_
 refine s_call (r_call Try.call58 (ec rfl en)) (isNaN_spec _ _) ?_
 rintro v w ⟨rfl, HC⟩
 replace H := H.quiet HC
 refine za ?_
 refine zc (t20 []) ?_
 refine zq 20 ⟨rfl, rfl⟩ ?_
 refine zm ?_
 refine s_call (r_call Try.call58 (ec rfl en)) (isNaN_spec _ _) ?_
 rintro v w ⟨rfl, HC⟩
 replace H := H.quiet HC
 refine za ?_
 refine zc (t20 []) ?_
 refine c_seq ?_
 refine zq 20 ⟨rfl, rfl⟩ ?_
 refine zm ?_
 refine zc (t20 []) ?_
 refine c_iff rfl ?_
 refine wp_skip ?_
 refine x_thenNormal ?_
 refine c_seq ?_
 refine zq 20 ⟨rfl, rfl⟩ ?_
 refine zm ?_
 refine zc (t20 []) ?_
 refine c_iff rfl ?_
 refine wp_skip ?_
 refine x_thenNormal ?_
 refine c_seq ?_
 refine zq 20 ⟨rfl, rfl⟩ ?_
 refine zm ?_
 refine zm ?_
 refine s_val (r_lss rfl rfl) ?_
 refine zc (t20 []) ?_
 refine c_if rfl (fun h16 => ?_) (fun h16 => ?_)
 ·refine zq 20 ⟨rfl, rfl⟩ ?_
  refine za ?_
  refine zc (t20 []) ?_
  refine wp_ret (x_thenRet ?_)
  refine zw (res1 rfl rfl) ?_
  exact ⟨by unfold cmpI; first | rw [if_pos (by omega)] | rw [if_neg (by omega), if_pos (by omega)] | rw [if_neg (by omega), if_neg (by omega)], H⟩
 ·refine wp_skip ?_
  refine x_thenNormal ?_
  refine c_seq ?_
  refine zq 20 ⟨rfl, rfl⟩ ?_
  refine zm ?_
  refine zm ?_
  refine s_val (r_gtr rfl rfl) ?_
  refine zc (t20 []) ?_
  refine c_if rfl (fun h19 => ?_) (fun h19 => ?_)
  ·refine zq 20 ⟨rfl, rfl⟩ ?_
   refine za ?_
   refine zc (t20 []) ?_
   refine wp_ret (x_thenRet ?_)
   refine zw (res1 rfl rfl) ?_
   exact ⟨by unfold cmpI; first | rw [if_pos (by omega)] | rw [if_neg (by omega), if_pos (by omega)] | rw [if_neg (by omega), if_neg (by omega)], H⟩
  ·refine wp_skip ?_
   refine x_thenNormal ?_
   refine zq 20 ⟨rfl, rfl⟩ ?_
   refine za ?_
   refine zc (t20 []) ?_
   refine wp_ret ?_
   refine zw (res1 rfl rfl) ?_
   exact ⟨by unfold cmpI; first | rw [if_pos (by omega)] | rw [if_neg (by omega), if_pos (by omega)] | rw [if_neg (by omega), if_neg (by omega)], H⟩

set_option maxHeartbeats 4000000 in
theorem find1_spec (h : Held) (n : Int) (w0 : World) :
  Calls Try.prog 54 #[.agg (hC h).toArray, .int .u64 n] w0 fun e w => ∃ v, e = .returned v ∧ (v = .int .i64 (cmpI h.at_ n) ∧ St w0 [] w []) := by
 have H := St.refl w0
 refine c_enter (args := [.agg (hC h).toArray, .int .u64 n]) (l := t9 []) Try.func54 Try.ntmps54 rfl rfl ?_
 refine zq 9 ⟨rfl, rfl⟩ ?_
 refine s_new (m_box H rfl rfl) ?_
 intro w b2 H
 refine za ?_
 refine zc (t9 []) ?_
 refine zq 9 ⟨rfl, rfl⟩ ?_
 refine zR 1 qu88 qs28 ?_
 refine zL qg28 (H.at 0 rfl) ?_
 refine zm ?_
 refine s_call (r_call Try.call38 (ec rfl (ec rfl en))) (compare_spec _ _ _) ?_
 rintro v w ⟨rfl, HC⟩
 replace H := H.quiet HC
 refine za ?_
 refine zc (t9 []) ?_
 refine wp_ret ?_
 refine zw (res1 rfl rfl) ?_
 exact ⟨rfl, H.sub (.cons _ .slnil)⟩

set_option maxHeartbeats 4000000 in
theorem bs_spec (a : Option Addr) (cap : Nat) (xs : List Held) (n : Int) (hl : xs.length ≤ 4611686018427387904) (w0 : World) (hr : HRow w0 a xs) :
  Calls Try.prog 53 #[.slice a xs.length cap, .int .u64 n, .func (.func 54) #[] #[]] w0 fun e w => ∃ v, e = .returned v ∧ (∃ i : Nat, Bs xs n i ∧ v = .tuple #[.int .i64 i, .bool (decide (i < xs.length ∧ (nd xs i).at_ = n))] ∧ St w0 [] w []) := by
 have H := St.refl w0
 refine c_enter (args := [.slice a xs.length cap, .int .u64 n, .func (.func 54) #[] #[]]) (l := t40 (t9 [])) Try.func53 Try.ntmps53 rfl rfl ?_
 refine zq 49 ⟨rfl, rfl⟩ ?_
 refine za ?_
 refine za ?_
 refine zc (t40 (t9 [])) ?_
 refine zq 49 ⟨rfl, rfl⟩ ?_
 refine zm ?_
 refine s_val (r_lens qu85 (ec rfl en)) ?_
 refine za ?_
 refine zc (t40 (t9 [])) ?_
 refine zq 49 ⟨rfl, rfl⟩ ?_
 refine zm ?_
 refine za ?_
 refine za ?_
 refine zc (t40 (t9 [])) ?_
 refine c_seq ?_
 refine wp_block ?_
 refine c_loop (fun (l0 : List Value) (t : Nat × Nat) (l : List Value) (w : World) => ∃ (u11 u15 u16 u17 u18 u19 u20 u21 u22 u23 u24 u25 u26 u27 u28 u29 u30 u31 u32 u33 u34 : Value) , l = ovr l0 [N_, N_, N_, N_, N_, N_, N_, N_, N_, Y_ (.int .i64 t.1), Y_ (.int .i64 t.2), Y_ u11, N_, N_, N_, Y_ u15, Y_ u16, Y_ u17, Y_ u18, Y_ u19, Y_ u20, Y_ u21, Y_ u22, Y_ u23, Y_ u24, Y_ u25, Y_ u26, Y_ u27, Y_ u28, Y_ u29, Y_ u30, Y_ u31, Y_ u32, Y_ u33, Y_ u34] ∧ t.1 ≤ t.2 ∧ t.2 ≤ xs.length ∧ (0 < t.1 → (nd xs (t.1 - 1)).at_ < n) ∧ (t.2 < xs.length → n ≤ (nd xs t.2).at_) ∧ St w0 [] w []) (fun (t : Nat × Nat) => t.2 - t.1) (0, xs.length) ⟨_, _, _, _, _, _, _, _, _, _, _, _, _, _, _, _, _, _, _, _, _, rfl, Nat.zero_le _, Nat.le_refl _, fun h => absurd h (Nat.lt_irrefl _), fun h => absurd h (Nat.lt_irrefl _), H⟩ ?_
 rintro ⟨i, j⟩ l w ⟨u11, u15, u16, u17, u18, u19, u20, u21, u22, u23, u24, u25, u26, u27, u28, u29, u30, u31, u32, u33, u34, hl, hij, hj, hlo, hhi, H⟩
 obtain rfl := hl.trans (rfl : _ = t40 (t9 []))
 clear hl
 dsimp only at hij hj hlo hhi
 refine c_seq ?_
 refine zq 49 ⟨rfl, rfl⟩ ?_
 refine zm ?_
 refine zm ?_
 refine s_val (r_lss rfl rfl) ?_
 refine zc (t40 (t9 [])) ?_
 refine c_if rfl (fun h17 => ?_) (fun h17 => ?_)
 ·refine wp_skip ?_
  refine x_thenNormal ?_
  refine wp_block ?_
  refine zq 49 ⟨rfl, rfl⟩ ?_
  obtain ⟨h, hh⟩ : ∃ h : Nat, h = (i + j) / 2 := ⟨_, rfl⟩
  refine zm ?_
  refine zm ?_
  refine zj ?_
  refine s_val (r_conv qu3 qu102 rfl v6) ?_
  refine s_val (r_shr (r := (h : Int)) rfl rfl (by omega) ((shr1 _ _).trans (by omega))) ?_
  refine s_val (r_conv qu102 qu3 rfl w6) ?_
  refine za ?_
  refine zc (t40 (t9 [])) ?_
  refine zq 49 ⟨rfl, rfl⟩ ?_
  obtain ⟨bh, off, pre, post, T, fz, rfl, hb, hp⟩ := hr (by omega)
  refine zm ?_
  refine zm ?_
  refine zm ?_
  refine s_val (ziS qu85 qs88) ?_
  refine s_val (r_loadn qg88 qs88 rfl (H.rd0 hb) (hs_tdn _ _ _ _ h hp (by omega)) (by first | exact (kC_length _) | exact (hC_length _) | exact rfl)) ?_
  refine zm ?_
  refine s_call (r_callv Try.call54 rfl (ec rfl (ec rfl en)) rfl) (find1_spec _ _ _) ?_
  rintro v w ⟨rfl, HC⟩
  replace H := H.quiet HC
  refine s_val (r_lss rfl rfl) ?_
  refine zc (t40 (t9 [])) ?_
  refine c_if rfl (fun h31 => ?_) (fun h31 => ?_)
  ·have hcm := cmpI_neg.1 h31
   refine c_region (n := 49) ⟨rfl, rfl⟩ ?_
   refine zm ?_
   refine zj ?_
   refine za ?_
   refine zb (t40 (t9 [])) ?_
   refine x_blockNormal ?_
   exact ⟨(h + 1, j), _, rfl, ⟨_, _, _, _, _, _, _, _, _, _, _, _, _, _, _, _, _, _, _, _, _, rfl, (by dsimp only; omega), hj, (fun _ => hcm), hhi, H⟩, by dsimp only; omega⟩
  ·have hcm := cmpI_nneg.1 h31
   refine c_region (n := 49) ⟨rfl, rfl⟩ ?_
   refine zm ?_
   refine za ?_
   refine zb (t40 (t9 [])) ?_
   refine x_blockNormal ?_
   exact ⟨(i, h), _, rfl, ⟨_, _, _, _, _, _, _, _, _, _, _, _, _, _, _, _, _, _, _, _, _, rfl, (by dsimp only; omega), (by dsimp only; omega), hlo, (fun _ => hcm), H⟩, by dsimp only; omega⟩
 ·obtain rfl : i = j := by omega
  refine wp_exit (x_thenExit (x_thenExit (x_blockHit ?_)))
  refine x_thenNormal ?_
  refine zq 49 ⟨rfl, rfl⟩ ?_
  refine zm ?_
  refine zm ?_
  refine zm ?_
  refine s_test (r_lss rfl rfl) (fun h38 => ?_) (fun h38 => ?_)
  ·refine zm ?_
   refine zy ?_
   obtain ⟨bh, off, pre, post, T, fz, rfl, hb, hp⟩ := hr (by omega)
   refine zm ?_
   refine zy ?_
   refine zm ?_
   refine zy ?_
   refine zm ?_
   refine zy ?_
   refine s_val (ziS qu85 qs88) ?_
   refine zy ?_
   refine s_val (r_loadn qg88 qs88 rfl (H.rd0 hb) (hs_tdn _ _ _ _ i hp (by omega)) (by first | exact (kC_length _) | exact (hC_length _) | exact rfl)) ?_
   refine zy ?_
   refine zm ?_
   refine zy ?_
   refine s_call (r_callv Try.call54 rfl (ec rfl (ec rfl en)) rfl) (find1_spec _ _ _) ?_
   rintro v w ⟨rfl, HC⟩
   replace H := H.quiet HC
   refine zy ?_
   refine s_val (r_eql rfl rfl) ?_
   refine zv ?_
   refine za ?_
   refine za ?_
   refine zc (t40 (t9 [])) ?_
   refine wp_ret ?_
   refine zw (res2 rfl rfl rfl) ?_
   exact ⟨_, ⟨hj, hlo, hhi⟩, tup_dec (by rw [cmpI_zero]; exact ⟨fun h => ⟨by omega, h⟩, fun h => h.2⟩), H⟩
  ·refine zm ?_
   refine zg ?_
   refine zg ?_
   refine zg ?_
   refine zg ?_
   refine zg ?_
   refine zg ?_
   refine zg ?_
   refine zg ?_
   refine zf ?_
   refine za ?_
   refine za ?_
   refine zc (t40 (t9 [])) ?_
   refine wp_ret ?_
   refine zw (res2 rfl rfl rfl) ?_
   exact ⟨_, ⟨hj, hlo, hhi⟩, tup_false (by omega), H⟩

set_option maxHeartbeats 4000000 in
theorem find_spec (bt : Nat) (ci : Value) (a : Option Addr) (cap : Nat) (Tt : TypeId) (fzt : Nat × Nat) (xs : List Held) (hl : xs.length ≤ 4611686018427387904) (hv : Valid xs) (n : Int) (hn0 : 0 ≤ n) (w0 : World) (hbt : w0.heap[bt]? = some (.cells [ci, .slice a xs.length cap].toArray Tt fzt)) (hr : HRow w0 a xs) :
  Calls Try.prog 33 #[.pointer (some ⟨bt, 0, none⟩), .int .u64 n] w0 fun e w => ∃ v, e = .returned v ∧ (∃ i ok, FindR xs n i ok ∧ v = .tuple #[.int .i64 (i : Nat), .bool ok] ∧ St w0 [] w []) := by
 have H := St.refl w0
 refine c_enter (args := [.pointer (some ⟨bt, 0, none⟩), .int .u64 n]) (l := t50 (t4 [])) Try.func33 Try.ntmps33 rfl rfl ?_
 refine zq 54 ⟨rfl, rfl⟩ ?_
 refine za ?_
 refine za ?_
 refine zc (t50 (t4 [])) ?_
 refine c_seq ?_
 refine zq 54 ⟨rfl, rfl⟩ ?_
 refine zm ?_
 refine s_val (r_nilpF Try.runUnderlying31 rfl rfl) ?_
 refine zm ?_
 refine zy ?_
 refine zm ?_
 refine zy ?_
 refine s_call (r_call Try.call52 (ec rfl en)) (many_spec _ (by omega) (by omega) _) ?_
 rintro v w ⟨rfl, HC⟩
 replace H := H.quiet HC
 refine zy ?_
 refine s_val (r_geq rfl rfl) ?_
 refine zf ?_
 refine zc (t50 (t4 [])) ?_
 refine c_if rfl (fun h14 => ?_) (fun h14 => ?_)
 ·refine zq 54 ⟨rfl, rfl⟩ ?_
  refine za ?_
  refine za ?_
  refine zc (t50 (t4 [])) ?_
  refine wp_ret (x_thenRet ?_)
  refine zw (res2 rfl rfl rfl) ?_
  exact ⟨0, false, find_none_big hv (by have := many_zero; omega), rfl, H⟩
 ·have hn1 : n < 131072 := by have := many_zero; omega
  refine wp_skip ?_
  refine x_thenNormal ?_
  refine zq 54 ⟨rfl, rfl⟩ ?_
  refine zm ?_
  refine s_val (r_nilCheck rfl) ?_
  refine zR 1 qu90 qs85 ?_
  refine zL qg85 (H.rd0 hbt) ?_
  refine zm ?_
  refine s_call (r_call Try.call53 (ec rfl (ec rfl (ec rfl en)))) (bs_spec _ _ _ _ (by omega) _ (hr.st H)) ?_
  rintro v w ⟨i, hbs, rfl, HC⟩
  replace H := H.quiet HC
  refine zm ?_
  refine ze ?_
  refine ze ?_
  refine za ?_
  refine za ?_
  refine zc (t50 (t4 [])) ?_
  refine c_seq ?_
  refine zq 54 ⟨rfl, rfl⟩ ?_
  refine zm ?_
  refine zc (t50 (t4 [])) ?_
  refine c_if rfl (fun h24 => ?_) (fun h24 => ?_)
  ·refine zq 54 ⟨rfl, rfl⟩ ?_
   refine zm ?_
   refine za ?_
   refine za ?_
   refine zc (t50 (t4 [])) ?_
   refine wp_ret (x_thenRet ?_)
   refine zw (res2 rfl rfl rfl) ?_
   exact ⟨i, true, find_hit h24.1 h24.2, rfl, H⟩
  ·refine wp_skip ?_
   refine x_thenNormal ?_
   refine c_seq ?_
   refine c_seq ?_
   refine d_begin (sz := 54) ⟨rfl, rfl⟩ (by kernel_rfl) H (H) rfl ?_
   intro w H
   refine zM 0 H ?_
   refine zd 1 rfl (by kernel_rfl) (fun _ _ _ h => h) H (r_eql rfl rfl) rfl ?_
   refine d_part (fun h27 => ?_) (fun h27 => ?_)
   ·refine zM 2 H ?_
    refine zN 3 H ?_
    refine zN 4 H ?_
    refine zN 5 H ?_
    refine zN 6 H ?_
    refine zN 7 H ?_
    refine zN 8 H ?_
    refine zN 9 H ?_
    refine zN 10 H ?_
    refine zN 11 H ?_
    refine zN 12 H ?_
    refine zN 13 H ?_
    refine zN 14 H ?_
    refine zN 15 H ?_
    refine zN 16 H ?_
    refine zN 17 H ?_
    refine zN 18 H ?_
    refine zN 19 H ?_
    refine zN 20 H ?_
    refine zN 21 H ?_
    refine zN 22 H ?_
    refine zN 23 H ?_
    refine zN 24 H ?_
    refine zd 25 rfl (by kernel_rfl) (fun _ _ _ h => h) H (r_pickt rfl rfl) rfl ?_
    refine zz (t50 (t4 [])) ?_
    refine x_thenNormal ?_
    refine c_ift rfl ?_
    refine zq 54 ⟨rfl, rfl⟩ ?_
    refine za ?_
    refine za ?_
    refine zc (t50 (t4 [])) ?_
    refine wp_ret (x_thenRet ?_)
    refine zw (res2 rfl rfl rfl) ?_
    obtain rfl : i = 0 := by omega
    exact ⟨0, false, find_none_first hv hbs (fun h he => h24 ⟨h, he⟩), rfl, H⟩
   ·obtain ⟨m, rfl⟩ : ∃ m, i = m + 1 := ⟨i - 1, by omega⟩
    have hm := hbs.1
    obtain ⟨bh, off, pre, post, T, fz, rfl, hb, hp⟩ := hr (by omega)
    have hlt := hbs.2.1 (by omega)
    simp only [Nat.add_sub_cancel] at hlt
    obtain ⟨hd0, hd1, ha0, _, ha1⟩ := hv.get (i := m) (by omega)
    refine zM 2 H ?_
    refine zG 3 rfl rfl rfl (by kernel_rfl) (fun _ _ _ h => h) H (r_move rfl) rfl ?_
    refine zG 4 rfl rfl rfl (by kernel_rfl) (fun _ _ _ h => h) H (r_move rfl) rfl ?_
    refine zG 5 rfl rfl rfl (by kernel_rfl) (fun _ _ _ h => h) H (r_nilCheck rfl) rfl ?_
    refine zG 6 rfl rfl rfl (by kernel_rfl) (fun _ _ _ h => h) H (zr 1 qu90 qs85) rfl ?_
    refine zGh 7 rfl rfl rfl (by kernel_rfl) (fun _ _ _ h => h) H (fun HS => z1 qg85 (HS.rd0 hbt)) rfl ?_
    refine zG 8 rfl rfl rfl (by kernel_rfl) (fun _ _ _ h => h) H (r_move rfl) rfl ?_
    refine zG 9 rfl rfl rfl (by kernel_rfl) (fun _ _ _ h => h) H (r_sub (r := (m : Int)) rfl rfl (w_i64e (by omega) (by omega) (by omega))) rfl ?_
    refine zG 10 rfl rfl rfl (by kernel_rfl) (fun _ _ _ h => h) H (ziS qu85 qs88) rfl ?_
    refine zG 11 rfl rfl rfl (by kernel_rfl) (fun _ _ _ h => h) H (zr 1 qu88 qs28) rfl ?_
    refine zGh 12 rfl rfl rfl (by kernel_rfl) (fun _ _ _ h => h) H (fun HS => r_load1 qg28 rfl (HS.rd0 hb) (hs_at _ _ _ _ m hp (by omega))) rfl ?_
    refine zG 13 rfl rfl rfl (by kernel_rfl) (fun _ _ _ h => h) H (r_sub rfl rfl v6) rfl ?_
    refine zG 14 rfl rfl rfl (by kernel_rfl) (fun _ _ _ h => h) H (r_move rfl) rfl ?_
    refine zG 15 rfl rfl rfl (by kernel_rfl) (fun _ _ _ h => h) H (r_nilCheck rfl) rfl ?_
    refine zG 16 rfl rfl rfl (by kernel_rfl) (fun _ _ _ h => h) H (zr 1 qu90 qs85) rfl ?_
    refine zGh 17 rfl rfl rfl (by kernel_rfl) (fun _ _ _ h => h) H (fun HS => z1 qg85 (HS.rd0 hbt)) rfl ?_
    refine zG 18 rfl rfl rfl (by kernel_rfl) (fun _ _ _ h => h) H (r_move rfl) rfl ?_
    refine zG 19 rfl rfl rfl (by kernel_rfl) (fun _ _ _ h => h) H (r_sub (r := (m : Int)) rfl rfl (w_i64e (by omega) (by omega) (by omega))) rfl ?_
    refine zG 20 rfl rfl rfl (by kernel_rfl) (fun _ _ _ h => h) H (ziS qu85 qs88) rfl ?_
    refine zG 21 rfl rfl rfl (by kernel_rfl) (fun _ _ _ h => h) H (zr 0 qu88 qs3) rfl ?_
    refine zGh 22 rfl rfl rfl (by kernel_rfl) (fun _ _ _ h => h) H (fun HS => r_load1 qg3 rfl (HS.rd0 hb) (hs_depth _ _ _ _ m hp (by omega))) rfl ?_
    refine zl1 23 ?_
    refine b_call rfl (go_some rfl rfl) (r_call Try.call52 (ec rfl en)) (many_spec _ (by omega) (by omega) _) rfl ?_
    rintro v w ⟨rfl, HC⟩
    replace H := H.quiet HC
    refine ⟨H, ?_⟩
    refine zG 24 rfl rfl rfl (by kernel_rfl) (fun _ _ _ h => h) H (r_geq rfl rfl) rfl ?_
    refine zd 25 rfl (by kernel_rfl) (fun _ _ _ h => h) H (r_pickf rfl rfl) rfl ?_
    refine zz (t50 (t4 [])) ?_
    refine x_thenNormal ?_
    refine c_if rfl (fun h51 => ?_) (fun h51 => ?_)
    ·refine zq 54 ⟨rfl, rfl⟩ ?_
     refine za ?_
     refine za ?_
     refine zc (t50 (t4 [])) ?_
     refine wp_ret (x_thenRet ?_)
     refine zw (res2 rfl rfl rfl) ?_
     exact ⟨0, false, find_none_gap hv hbs (fun h he => h24 ⟨h, he⟩) h51, rfl, H⟩
    ·refine wp_skip ?_
     refine x_thenNormal ?_
     refine zq 54 ⟨rfl, rfl⟩ ?_
     refine zm ?_
     refine s_val (r_sub (r := (m : Int)) rfl rfl (w_i64e (by omega) (by omega) (by omega))) ?_
     refine za ?_
     refine za ?_
     refine zc (t50 (t4 [])) ?_
     refine wp_ret ?_
     refine zw (res2 rfl rfl rfl) ?_
     exact ⟨m, true, find_in hbs h51, rfl, H⟩

set_option maxHeartbeats 4000000 in
theorem down1_spec (x : Held) (bb bt : Nat) (ci hv : Value) (Tb Tt : TypeId) (fzb fzt : Nat × Nat) (sl sr : Key → Key) (hci : SplitsBy Try.prog ci sl sr) (hd0 : 0 ≤ x.depth) (hd1 : x.depth < 17) (ha0 : 0 ≤ x.at_) (ha1 : x.at_ < 131072) (w0 : World) (hbb : w0.heap[bb]? = some (.cells [.pointer (some ⟨bt, 0, none⟩)].toArray Tb fzb)) (hbt : w0.heap[bt]? = some (.cells [ci, hv].toArray Tt fzt)) :
  Calls Try.prog 55 #[.agg (hC x).toArray, .pointer (some ⟨bb, 0, none⟩)] w0 fun e w => ∃ v, e = .returned v ∧ (v = .tuple #[.agg (hC (kidL sl x)).toArray, .agg (hC (kidR sr x)).toArray] ∧ St w0 [] w []) := by
 obtain ⟨Tc, vc, fc, rv, rfl, hE, hM, hC'⟩ := hci
 have H := St.refl w0
 refine c_enter (args := [.agg (hC x).toArray, .pointer (some ⟨bb, 0, none⟩)]) (l := t30 (t6 [])) Try.func55 Try.ntmps55 rfl rfl ?_
 refine zq 36 ⟨rfl, rfl⟩ ?_
 refine s_new (m_box H rfl rfl) ?_
 intro w b2 H
 refine s_new (zA (hC Held.zero) H qo88) ?_
 intro w b3 H
 refine s_new (zA (hC Held.zero) H qo88) ?_
 intro w b4 H
 refine zc (t30 (t6 [])) ?_
 refine c_cut (fun (l0 : List Value) (l : List Value) (w : World) => ∃ (u7 u8 u9 u10 u11 u12 u13 u14 u15 u16 : Value) (b5 b6 : Nat), l = ovr l0 [N_, N_, N_, N_, N_, Y_ (.pointer (some ⟨b5, 0, none⟩)), Y_ (.pointer (some ⟨b6, 0, none⟩)), Y_ u7, Y_ u8, Y_ u9, Y_ u10, Y_ u11, Y_ u12, Y_ u13, Y_ u14, Y_ u15, Y_ u16] ∧ St w0 [] w [(b6, .cells (kC (sr x.seed)).toArray 24 (0, 0)), (b5, .cells (kC (sl x.seed)).toArray 24 (0, 0)), (b4, .cells (hC Held.zero).toArray 88 (0, 0)), (b3, .cells (hC Held.zero).toArray 88 (0, 0)), (b2, .cells (hC x).toArray 88 (0, 0))]) ?_ ?_
 ·refine d_begin (sz := 36) ⟨rfl, rfl⟩ (by kernel_rfl) H (H) rfl ?_
  intro w H
  refine zdh 0 rfl (by kernel_rfl) (fun _ _ _ h => h) H (fun HS => z2 qg31 (HS.rd0 hbb)) rfl ?_
  refine zd 1 rfl (by kernel_rfl) (fun _ _ _ h => h) H (r_nilCheck rfl) rfl ?_
  refine zd 2 rfl (by kernel_rfl) (fun _ _ _ h => h) H (zr 0 qu90 Try.sizeOf76) rfl ?_
  refine zdh 3 rfl (by kernel_rfl) (fun _ _ _ h => h) H (fun HS => z2 qg76 (HS.rd0 hbt)) rfl ?_
  refine zd 4 rfl (by kernel_rfl) (fun _ _ _ h => h) H (zr 2 qu88 qs24) rfl ?_
  refine zdh 5 rfl (by kernel_rfl) (fun _ _ _ h => h) H (fun HS => zo qg24 qs24 (HS.at 2 rfl)) rfl ?_
  refine zl3 6 10 11 ?_ ?_ ?_
  ·refine b_call rfl go_none (r_invoke hE rfl hM (ec rfl en)) (hC' _ _) rfl ?_
   rintro v w ⟨rfl, HC⟩
   replace H := H.quiet HC
   refine ⟨H, ?_⟩
   refine zM 7 H ?_
   refine zd 8 rfl (by kernel_rfl) (fun _ _ _ h => h) H (r_extract rfl rfl) rfl ?_
   refine zd 9 rfl (by kernel_rfl) (fun _ _ _ h => h) H (r_extract rfl rfl) rfl ?_
   refine zl2 10 11 ?_ ?_
   ·refine b_new rfl go_none (zA (kC (By.zero 32)) H qo24) rfl (fun _ _ H => (H.sub x0111n)) ?_
    intro w b5 H
    refine zl1 11 ?_
    refine b_new rfl go_none (zA (kC (By.zero 32)) H qo24) rfl (fun _ _ H => (H.sub x00111n)) ?_
    intro w b6 H
    refine zl1 12 ?_
    refine b_st rfl go_none (zs H 1 32 qs24) (L' := [_,_,_,_,_]) rfl rfl (fun _ H => (H.sub x00111n)) ?_
    intro w H
    refine zl1 13 ?_
    refine b_st rfl go_none (zs H 0 32 qs24) (L' := [_,_,_,_,_]) rfl rfl (fun _ H => (H.sub x00111n)) ?_
    intro w H
    refine zz (t30 (t6 [])) ?_
    exact ⟨_, rfl, ⟨_, _, _, _, _, _, _, _, _, _, _, _, rfl, H⟩⟩
   ·refine b_new rfl go_none (zA (kC (By.zero 32)) H qo24) rfl (fun _ _ H => (H.sub x0111n)) ?_
    intro w b6 H
    refine zl1 10 ?_
    refine b_new rfl go_none (zA (kC (By.zero 32)) H qo24) rfl (fun _ _ H => (H.sub x00111n)) ?_
    intro w b5 H
    refine zl1 12 ?_
    refine b_st rfl go_none (zs H 0 32 qs24) (L' := [_,_,_,_,_]) rfl rfl (fun _ H => (H.sub x00111n)) ?_
    intro w H
    refine zl1 13 ?_
    refine b_st rfl go_none (zs H 1 32 qs24) (L' := [_,_,_,_,_]) rfl rfl (fun _ H => (H.sub x00111n)) ?_
    intro w H
    refine zz (t30 (t6 [])) ?_
    replace H := H.swp 0 (L' := [_,_,_,_,_]) rfl
    exact ⟨_, rfl, ⟨_, _, _, _, _, _, _, _, _, _, _, _, rfl, H⟩⟩
  ·refine b_new rfl go_none (zA (kC (By.zero 32)) H qo24) rfl (fun _ _ H => (H.sub x0111n)) ?_
   intro w b5 H
   refine zl2 6 11 ?_ ?_
   ·refine b_call rfl go_none (r_invoke hE rfl hM (ec rfl en)) (hC' _ _) rfl ?_
    rintro v w ⟨rfl, HC⟩
    replace H := H.quiet HC
    refine ⟨(H.sub x0111n), ?_⟩
    refine zM 7 (H.sub x0111n) ?_
    refine zd 8 rfl (by kernel_rfl) (fun _ _ _ h => h) (H.sub x0111n) (r_extract rfl rfl) rfl ?_
    refine zd 9 rfl (by kernel_rfl) (fun _ _ _ h => h) (H.sub x0111n) (r_extract rfl rfl) rfl ?_
    refine zl1 11 ?_
    refine b_new rfl go_none (zA (kC (By.zero 32)) H qo24) rfl (fun _ _ H => (H.sub x00111n)) ?_
    intro w b6 H
    refine zl1 12 ?_
    refine b_st rfl go_none (zs H 1 32 qs24) (L' := [_,_,_,_,_]) rfl rfl (fun _ H => (H.sub x00111n)) ?_
    intro w H
    refine zl1 13 ?_
    refine b_st rfl go_none (zs H 0 32 qs24) (L' := [_,_,_,_,_]) rfl rfl (fun _ H => (H.sub x00111n)) ?_
    intro w H
    refine zz (t30 (t6 [])) ?_
    exact ⟨_, rfl, ⟨_, _, _, _, _, _, _, _, _, _, _, _, rfl, H⟩⟩
   ·refine b_new rfl go_none (zA (kC (By.zero 32)) H qo24) rfl (fun _ _ H => (H.sub x00111n)) ?_
    intro w b6 H
    refine zl1 6 ?_
    refine b_call rfl go_none (r_invoke hE rfl hM (ec rfl en)) (hC' _ _) rfl ?_
    rintro v w ⟨rfl, HC⟩
    replace H := H.quiet HC
    refine ⟨(H.sub x00111n), ?_⟩
    refine zM 7 (H.sub x00111n) ?_
    refine zd 8 rfl (by kernel_rfl) (fun _ _ _ h => h) (H.sub x00111n) (r_extract rfl rfl) rfl ?_
    refine zd 9 rfl (by kernel_rfl) (fun _ _ _ h => h) (H.sub x00111n) (r_extract rfl rfl) rfl ?_
    refine zl1 12 ?_
    refine b_st rfl go_none (zs H 1 32 qs24) (L' := [_,_,_,_,_]) rfl rfl (fun _ H => (H.sub x00111n)) ?_
    intro w H
    refine zl1 13 ?_
    refine b_st rfl go_none (zs H 0 32 qs24) (L' := [_,_,_,_,_]) rfl rfl (fun _ H => (H.sub x00111n)) ?_
    intro w H
    refine zz (t30 (t6 [])) ?_
    exact ⟨_, rfl, ⟨_, _, _, _, _, _, _, _, _, _, _, _, rfl, H⟩⟩
  ·refine b_new rfl go_none (zA (kC (By.zero 32)) H qo24) rfl (fun _ _ H => (H.sub x0111n)) ?_
   intro w b6 H
   refine zl2 6 10 ?_ ?_
   ·refine b_call rfl go_none (r_invoke hE rfl hM (ec rfl en)) (hC' _ _) rfl ?_
    rintro v w ⟨rfl, HC⟩
    replace H := H.quiet HC
    refine ⟨(H.sub x0111n), ?_⟩
    refine zM 7 (H.sub x0111n) ?_
    refine zd 8 rfl (by kernel_rfl) (fun _ _ _ h => h) (H.sub x0111n) (r_extract rfl rfl) rfl ?_
    refine zd 9 rfl (by kernel_rfl) (fun _ _ _ h => h) (H.sub x0111n) (r_extract rfl rfl) rfl ?_
    refine zl1 10 ?_
    refine b_new rfl go_none (zA (kC (By.zero 32)) H qo24) rfl (fun _ _ H => (H.sub x00111n)) ?_
    intro w b5 H
    refine zl1 12 ?_
    refine b_st rfl go_none (zs H 0 32 qs24) (L' := [_,_,_,_,_]) rfl rfl (fun _ H => (H.sub x00111n)) ?_
    intro w H
    refine zl1 13 ?_
    refine b_st rfl go_none (zs H 1 32 qs24) (L' := [_,_,_,_,_]) rfl rfl (fun _ H => (H.sub x00111n)) ?_
    intro w H
    refine zz (t30 (t6 [])) ?_
    replace H := H.swp 0 (L' := [_,_,_,_,_]) rfl
    exact ⟨_, rfl, ⟨_, _, _, _, _, _, _, _, _, _, _, _, rfl, H⟩⟩
   ·refine b_new rfl go_none (zA (kC (By.zero 32)) H qo24) rfl (fun _ _ H => (H.sub x00111n)) ?_
    intro w b5 H
    refine zl1 6 ?_
    refine b_call rfl go_none (r_invoke hE rfl hM (ec rfl en)) (hC' _ _) rfl ?_
    rintro v w ⟨rfl, HC⟩
    replace H := H.quiet HC
    refine ⟨(H.sub x00111n), ?_⟩
    refine zM 7 (H.sub x00111n) ?_
    refine zd 8 rfl (by kernel_rfl) (fun _ _ _ h => h) (H.sub x00111n) (r_extract rfl rfl) rfl ?_
    refine zd 9 rfl (by kernel_rfl) (fun _ _ _ h => h) (H.sub x00111n) (r_extract rfl rfl) rfl ?_
    refine zl1 12 ?_
    refine b_st rfl go_none (zs H 0 32 qs24) (L' := [_,_,_,_,_]) rfl rfl (fun _ H => (H.sub x00111n)) ?_
    intro w H
    refine zl1 13 ?_
    refine b_st rfl go_none (zs H 1 32 qs24) (L' := [_,_,_,_,_]) rfl rfl (fun _ H => (H.sub x00111n)) ?_
    intro w H
    refine zz (t30 (t6 [])) ?_
    replace H := H.swp 0 (L' := [_,_,_,_,_]) rfl
    exact ⟨_, rfl, ⟨_, _, _, _, _, _, _, _, _, _, _, _, rfl, H⟩⟩
 ·rintro l w ⟨u7, u8, u9, u10, u11, u12, u13, u14, u15, u16, b5, b6, hl, H⟩
  obtain rfl := hl.trans (rfl : _ = t30 (t6 []))
  clear hl
  refine c_seq ?_
  refine d_begin (sz := 36) ⟨rfl, rfl⟩ (by kernel_rfl) H (H.sub x11001n) rfl ?_
  intro w H
  refine zd 0 rfl (by kernel_rfl) (fun _ _ _ h => h) (H.sub x11001n) (zr 0 qu88 qs3) rfl ?_
  refine zdh 1 rfl (by kernel_rfl) (fun _ _ _ h => h) (H.sub x11001n) (fun HS => z2 qg3 (HS.at 2 rfl)) rfl ?_
  refine zd 2 rfl (by kernel_rfl) (fun _ _ _ h => h) (H.sub x11001n) z_add rfl ?_
  refine zd 3 rfl (by kernel_rfl) (fun _ _ _ h => h) (H.sub x11001n) (zr 1 qu88 qs28) rfl ?_
  refine zdh 4 rfl (by kernel_rfl) (fun _ _ _ h => h) (H.sub x11001n) (fun HS => z2 qg28 (HS.at 2 rfl)) rfl ?_
  refine zdh 5 rfl (by kernel_rfl) (fun _ _ _ h => h) (H.sub x11001n) (fun HS => zo qg24 qs24 (HS.at 1 rfl)) rfl ?_
  refine zd 6 rfl (by kernel_rfl) (fun _ _ _ h => h) (H.sub x11001n) (r_buildS qu88 qo88 places88 (pc rfl (pc rfl (pc rfl pn))) (by first | exact (hfill _ _ _) | exact (hfill1 _))) rfl ?_
  refine zd 7 rfl (by kernel_rfl) (fun _ _ _ h => h) (H.sub x11001n) (zr 0 qu88 qs3) rfl ?_
  refine zdh 8 rfl (by kernel_rfl) (fun _ _ _ h => h) (H.sub x11001n) (fun HS => z2 qg3 (HS.at 2 rfl)) rfl ?_
  refine zd 9 rfl (by kernel_rfl) (fun _ _ _ h => h) (H.sub x11001n) z_add rfl ?_
  refine zd 10 rfl (by kernel_rfl) (fun _ _ _ h => h) (H.sub x11001n) (zr 1 qu88 qs28) rfl ?_
  refine zdh 11 rfl (by kernel_rfl) (fun _ _ _ h => h) (H.sub x11001n) (fun HS => z2 qg28 (HS.at 2 rfl)) rfl ?_
  refine zd 12 rfl (by kernel_rfl) (fun _ _ _ h => h) (H.sub x11001n) (zr 0 qu88 qs3) rfl ?_
  refine zdh 13 rfl (by kernel_rfl) (fun _ _ _ h => h) (H.sub x11001n) (fun HS => z2 qg3 (HS.at 2 rfl)) rfl ?_
  refine zd 14 rfl (by kernel_rfl) (fun _ _ _ h => h) (H.sub x11001n) z_add rfl ?_
  refine zdh 17 rfl (by kernel_rfl) (fun _ _ _ h => h) (H.sub x11001n) (fun HS => zo qg24 qs24 (HS.at 0 rfl)) rfl ?_
  refine zl1 15 ?_
  have hmp := many_pos (x.depth + 1)
  have hml := many_le (n := x.depth + 1) (by omega)
  refine b_call rfl go_none (r_call Try.call52 (ec rfl en)) (many_spec _ (by omega) (by omega) _) rfl ?_
  rintro v w ⟨rfl, HC⟩
  replace H := H.quiet HC
  refine ⟨(H.sub x11001n), ?_⟩
  refine zd 16 rfl (by kernel_rfl) (fun _ _ _ h => h) (H.sub x11001n) (r_add rfl rfl v6) rfl ?_
  refine zd 18 rfl (by kernel_rfl) (fun _ _ _ h => h) (H.sub x11001n) (r_buildS qu88 qo88 places88 (pc rfl (pc rfl (pc rfl pn))) (by first | exact (hfill _ _ _) | exact (hfill1 _))) rfl ?_
  refine zl1 19 ?_
  refine b_st rfl go_none (zs H 3 34 qs88) (L' := [_,_,_,_,_]) rfl rfl (fun _ H => (H.sub x11001n)) ?_
  intro w H
  refine zl1 20 ?_
  refine b_st rfl go_none (zs H 2 34 qs88) (L' := [_,_,_,_,_]) rfl rfl (fun _ H => (H.sub x11001n)) ?_
  intro w H
  refine zz (t30 (t6 [])) ?_
  refine x_thenNormal ?_
  refine wp_ret ?_
  refine zw (rc_two rfl (ro qg88 qs88 (H.at 3 rfl)) (ro qg88 qs88 (H.at 2 rfl))) ?_
  exact ⟨rfl, H.sub (.cons _ (.cons _ (.cons _ (.cons _ (.cons _ .slnil)))))⟩

end Go.Proofs.Ytobfnieebiakeaa

