import Derived.Test.YtobfnieebiakeaaProg
import Derived.Test.YtobfnieebiakeaaPVx1
namespace Go.Proofs.Ytobfnieebiakeaa
open Go Go.Er
set_option linter.unusedSimpArgs false in
theorem places88 : Places Try.prog #[⟨ "Depth", 3, 0, false, "", "", 0⟩, ⟨ "At", 28, 1, false, "", "", 8⟩, ⟨ "Seed", 24, 2, false, "", "", 16⟩] [(0, 1), (1, 1), (2, 32)] := fun w => by simp [Try.sizeOf24 w, Try.sizeOf28 w, Try.sizeOf3 w]
theorem bytesHeld : Try.t88.bytes = 48 := rfl

set_option maxHeartbeats 4000000 in
theorem many_spec (n : Int) (h0 : 0 ≤ n) (h1 : n ≤ 17) (w0 : World) :
  Calls Try.prog 52 #[.int .i64 n] w0 fun e w => ∃ v, e = .returned v ∧ (v = .int .u64 (many n) ∧ St w0 [] w []) := by
 have H := St.refl w0
 refine c_enter (args := [.int .i64 n]) (l := [.int .i64 n, undef, undef, undef, undef, undef, undef]) Try.func52 Try.ntmps52 rfl rfl ?_
 refine c_rseq (n := 7) ⟨rfl, rfl⟩ ?_
 refine s_val (r_assign rfl) ?_
 refine c_nil (l' := [_,_,_,_,_,_,_]) rfl ?_
 refine c_rseq (n := 7) ⟨rfl, rfl⟩ ?_
 refine s_val (r_move rfl) ?_
 refine s_val (r_sub rfl rfl (w_i64 (by omega) (by omega))) ?_
 refine s_val (r_conv Try.runUnderlying3 Try.runUnderlying102 rfl (w_u64 (by omega) (by omega))) ?_
 refine s_val (r_shl rfl rfl (by omega) rfl) ?_
 refine s_val (r_assign rfl) ?_
 refine c_nil (l' := [_,_,_,_,_,_,_]) rfl ?_
 refine wp_ret ?_
 refine e_ret (res1 rfl rfl) ⟨_, rfl, ?_⟩
 exact ⟨by rw [many_eq h0], H⟩

set_option maxHeartbeats 4000000 in
theorem isNaN_spec (n : Int) (w0 : World) :
  Calls Try.prog 58 #[.int .u64 n] w0 fun e w => ∃ v, e = .returned v ∧ (v = .bool false ∧ St w0 [] w []) := by
 have H := St.refl w0
 refine c_enter (args := [.int .u64 n]) (l := [.int .u64 n, undef, undef, undef, undef, undef]) Try.func58 Try.ntmps58 rfl rfl ?_
 refine c_rseq (n := 6) ⟨rfl, rfl⟩ ?_
 refine s_val (r_assign rfl) ?_
 refine c_nil (l' := [_,_,_,_,_,_]) rfl ?_
 refine c_rseq (n := 6) ⟨rfl, rfl⟩ ?_
 refine s_val (r_move rfl) ?_
 refine s_val (r_move rfl) ?_
 refine s_val (r_neq rfl rfl) ?_
 refine s_val (r_assign rfl) ?_
 refine c_nil (l' := [_,_,_,_,_,_]) rfl ?_
 refine wp_ret ?_
 refine e_ret (res1 rfl rfl) ⟨_, rfl, ?_⟩
 exact ⟨by simp, H⟩

set_option maxHeartbeats 4000000 in
theorem compare_spec (m n : Int) (w0 : World) :
  Calls Try.prog 38 #[.int .u64 m, .int .u64 n] w0 fun e w => ∃ v, e = .returned v ∧ (v = .int .i64 (cmpI m n) ∧ St w0 [] w []) := by
 have H := St.refl w0
 refine c_enter (args := [.int .u64 m, .int .u64 n]) (l := [.int .u64 m, .int .u64 n, undef, undef, undef, undef, undef, undef, undef, undef, undef, undef, undef, undef, undef, undef, undef, undef, undef, undef]) Try.func38 Try.ntmps38 rfl rfl ?_
 refine c_rseq (n := 20) ⟨rfl, rfl⟩ ?_
 refine s_val (r_assign rfl) ?_
 refine c_nil (l' := [_,_,_,_,_,_,_,_,_,_,_,_,_,_,_,_,_,_,_,_]) rfl ?_
 refine c_rseq (n := 20) ⟨rfl, rfl⟩ ?_
 refine s_val (r_move rfl) ?_
 refine s_call (r_call Try.call58 (ec rfl en)) (isNaN_spec _ _) ?_
 rintro v w ⟨rfl, HC⟩
 replace H := H.quiet HC
 refine s_val (r_assign rfl) ?_
 refine c_nil (l' := [_,_,_,_,_,_,_,_,_,_,_,_,_,_,_,_,_,_,_,_]) rfl ?_
 refine c_rseq (n := 20) ⟨rfl, rfl⟩ ?_
 refine s_val (r_move rfl) ?_
 refine s_call (r_call Try.call58 (ec rfl en)) (isNaN_spec _ _) ?_
 rintro v w ⟨rfl, HC⟩
 replace H := H.quiet HC
 refine s_val (r_assign rfl) ?_
 refine c_nil (l' := [_,_,_,_,_,_,_,_,_,_,_,_,_,_,_,_,_,_,_,_]) rfl ?_
 refine c_seq ?_
 refine c_rseq (n := 20) ⟨rfl, rfl⟩ ?_
 refine s_val (r_move rfl) ?_
 refine c_nil (l' := [_,_,_,_,_,_,_,_,_,_,_,_,_,_,_,_,_,_,_,_]) rfl ?_
 refine c_iff rfl ?_
 refine wp_skip ?_
 refine x_thenNormal ?_
 refine c_seq ?_
 refine c_rseq (n := 20) ⟨rfl, rfl⟩ ?_
 refine s_val (r_move rfl) ?_
 refine c_nil (l' := [_,_,_,_,_,_,_,_,_,_,_,_,_,_,_,_,_,_,_,_]) rfl ?_
 refine c_iff rfl ?_
 refine wp_skip ?_
 refine x_thenNormal ?_
 refine c_seq ?_
 refine c_rseq (n := 20) ⟨rfl, rfl⟩ ?_
 refine s_val (r_move rfl) ?_
 refine s_val (r_move rfl) ?_
 refine s_val (r_lss rfl rfl) ?_
 refine c_nil (l' := [_,_,_,_,_,_,_,_,_,_,_,_,_,_,_,_,_,_,_,_]) rfl ?_
 refine c_if rfl (fun h16 => ?_) (fun h16 => ?_)
 ·skip
  refine c_rseq (n := 20) ⟨rfl, rfl⟩ ?_
  refine s_val (r_assign rfl) ?_
  refine c_nil (l' := [_,_,_,_,_,_,_,_,_,_,_,_,_,_,_,_,_,_,_,_]) rfl ?_
  refine wp_ret (x_thenRet ?_)
  refine e_ret (res1 rfl rfl) ⟨_, rfl, ?_⟩
  exact ⟨by unfold cmpI; first | rw [if_pos (by omega)] | rw [if_neg (by omega), if_pos (by omega)] | rw [if_neg (by omega), if_neg (by omega)], H⟩
 ·skip
  refine wp_skip ?_
  refine x_thenNormal ?_
  refine c_seq ?_
  refine c_rseq (n := 20) ⟨rfl, rfl⟩ ?_
  refine s_val (r_move rfl) ?_
  refine s_val (r_move rfl) ?_
  refine s_val (r_gtr rfl rfl) ?_
  refine c_nil (l' := [_,_,_,_,_,_,_,_,_,_,_,_,_,_,_,_,_,_,_,_]) rfl ?_
  refine c_if rfl (fun h19 => ?_) (fun h19 => ?_)
  ·skip
   refine c_rseq (n := 20) ⟨rfl, rfl⟩ ?_
   refine s_val (r_assign rfl) ?_
   refine c_nil (l' := [_,_,_,_,_,_,_,_,_,_,_,_,_,_,_,_,_,_,_,_]) rfl ?_
   refine wp_ret (x_thenRet ?_)
   refine e_ret (res1 rfl rfl) ⟨_, rfl, ?_⟩
   exact ⟨by unfold cmpI; first | rw [if_pos (by omega)] | rw [if_neg (by omega), if_pos (by omega)] | rw [if_neg (by omega), if_neg (by omega)], H⟩
  ·skip
   refine wp_skip ?_
   refine x_thenNormal ?_
   refine c_rseq (n := 20) ⟨rfl, rfl⟩ ?_
   refine s_val (r_assign rfl) ?_
   refine c_nil (l' := [_,_,_,_,_,_,_,_,_,_,_,_,_,_,_,_,_,_,_,_]) rfl ?_
   refine wp_ret ?_
   refine e_ret (res1 rfl rfl) ⟨_, rfl, ?_⟩
   exact ⟨by unfold cmpI; first | rw [if_pos (by omega)] | rw [if_neg (by omega), if_pos (by omega)] | rw [if_neg (by omega), if_neg (by omega)], H⟩

set_option maxHeartbeats 4000000 in
theorem find1_spec (h : Held) (n : Int) (w0 : World) :
  Calls Try.prog 54 #[.agg (hC h).toArray, .int .u64 n] w0 fun e w => ∃ v, e = .returned v ∧ (v = .int .i64 (cmpI h.at_ n) ∧ St w0 [] w []) := by
 have H := St.refl w0
 refine c_enter (args := [.agg (hC h).toArray, .int .u64 n]) (l := [.agg (hC h).toArray, .int .u64 n, undef, undef, undef, undef, undef, undef, undef]) Try.func54 Try.ntmps54 rfl rfl ?_
 refine c_rseq (n := 9) ⟨rfl, rfl⟩ ?_
 refine s_new (m_box H rfl rfl) ?_
 intro w b2 H
 refine s_val (r_assign rfl) ?_
 refine c_nil (l' := [_,_,_,_,_,_,_,_,_]) rfl ?_
 refine c_rseq (n := 9) ⟨rfl, rfl⟩ ?_
 refine s_val (r_fieldAddr (k := 1) Try.runUnderlying88 rfl Try.sizeOf28 (by decide) rfl rfl) ?_
 refine s_val (r_load1 Try.isAgg28 rfl (H.at 0 rfl) rfl) ?_
 refine s_val (r_move rfl) ?_
 refine s_call (r_call Try.call38 (ec rfl (ec rfl en))) (compare_spec _ _ _) ?_
 rintro v w ⟨rfl, HC⟩
 replace H := H.quiet HC
 refine s_val (r_assign rfl) ?_
 refine c_nil (l' := [_,_,_,_,_,_,_,_,_]) rfl ?_
 refine wp_ret ?_
 refine e_ret (res1 rfl rfl) ⟨_, rfl, ?_⟩
 exact ⟨rfl, H.sub (.cons _ .slnil)⟩

set_option maxHeartbeats 4000000 in
theorem bs_spec (a : Option Addr) (cap : Nat) (xs : List Held) (n : Int) (hl : xs.length ≤ 4611686018427387904) (w0 : World) (hr : HRow w0 a xs) :
  Calls Try.prog 53 #[.slice a xs.length cap, .int .u64 n, .func (.func 54) #[] #[]] w0 fun e w => ∃ v, e = .returned v ∧ (∃ i : Nat, Bs xs n i ∧ v = .tuple #[.int .i64 i, .bool (decide (i < xs.length ∧ (nd xs i).at_ = n))] ∧ St w0 [] w []) := by
 have H := St.refl w0
 refine c_enter (args := [.slice a xs.length cap, .int .u64 n, .func (.func 54) #[] #[]]) (l := [.slice a xs.length cap, .int .u64 n, .func (.func 54) #[] #[], undef, undef, undef, undef, undef, undef, undef, undef, undef, undef, undef, undef, undef, undef, undef, undef, undef, undef, undef, undef, undef, undef, undef, undef, undef, undef, undef, undef, undef, undef, undef, undef, undef, undef, undef, undef, undef, undef, undef, undef, undef, undef, undef, undef, undef, undef]) Try.func53 Try.ntmps53 rfl rfl ?_
 refine c_rseq (n := 49) ⟨rfl, rfl⟩ ?_
 refine s_val (r_assign rfl) ?_
 refine s_val (r_assign rfl) ?_
 refine c_nil (l' := [_,_,_,_,_,_,_,_,_,_,_,_,_,_,_,_,_,_,_,_,_,_,_,_,_,_,_,_,_,_,_,_,_,_,_,_,_,_,_,_,_,_,_,_,_,_,_,_,_]) rfl ?_
 refine c_rseq (n := 49) ⟨rfl, rfl⟩ ?_
 refine s_val (r_move rfl) ?_
 refine s_val (r_lens Try.runUnderlying85 (ec rfl en)) ?_
 refine s_val (r_assign rfl) ?_
 refine c_nil (l' := [_,_,_,_,_,_,_,_,_,_,_,_,_,_,_,_,_,_,_,_,_,_,_,_,_,_,_,_,_,_,_,_,_,_,_,_,_,_,_,_,_,_,_,_,_,_,_,_,_]) rfl ?_
 refine c_rseq (n := 49) ⟨rfl, rfl⟩ ?_
 refine s_val (r_move rfl) ?_
 refine s_val (r_assign rfl) ?_
 refine s_val (r_assign rfl) ?_
 refine c_nil (l' := [_,_,_,_,_,_,_,_,_,_,_,_,_,_,_,_,_,_,_,_,_,_,_,_,_,_,_,_,_,_,_,_,_,_,_,_,_,_,_,_,_,_,_,_,_,_,_,_,_]) rfl ?_
 refine c_seq ?_
 refine wp_block ?_
 refine c_loop (fun (l0 : List Value) (t : Nat × Nat) (l : List Value) (w : World) => ∃ (u11 u15 u16 u17 u18 u19 u20 u21 u22 u23 u24 u25 u26 u27 u28 u29 u30 u31 u32 u33 u34 : Value) , l = ovr l0 [N_, N_, N_, N_, N_, N_, N_, N_, N_, Y_ (.int .i64 t.1), Y_ (.int .i64 t.2), Y_ u11, N_, N_, N_, Y_ u15, Y_ u16, Y_ u17, Y_ u18, Y_ u19, Y_ u20, Y_ u21, Y_ u22, Y_ u23, Y_ u24, Y_ u25, Y_ u26, Y_ u27, Y_ u28, Y_ u29, Y_ u30, Y_ u31, Y_ u32, Y_ u33, Y_ u34] ∧ t.1 ≤ t.2 ∧ t.2 ≤ xs.length ∧ (0 < t.1 → (nd xs (t.1 - 1)).at_ < n) ∧ (t.2 < xs.length → n ≤ (nd xs t.2).at_) ∧ St w0 [] w []) (fun (t : Nat × Nat) => t.2 - t.1) (0, xs.length) ⟨_,_,_,_,_,_,_,_,_,_,_,_,_,_,_,_,_,_,_,_,_, rfl, Nat.zero_le _, Nat.le_refl _, fun h => absurd h (Nat.lt_irrefl _), fun h => absurd h (Nat.lt_irrefl _), H⟩ ?_
 rintro ⟨i, j⟩ l w ⟨u11, u15, u16, u17, u18, u19, u20, u21, u22, u23, u24, u25, u26, u27, u28, u29, u30, u31, u32, u33, u34, hl, hij, hj, hlo, hhi, H⟩
 obtain rfl := hl.trans (rfl : _ = [_,_,_,_,_,_,_,_,_,_,_,_,_,_,_,_,_,_,_,_,_,_,_,_,_,_,_,_,_,_,_,_,_,_,_,_,_,_,_,_,_,_,_,_,_,_,_,_,_])
 clear hl
 dsimp only at hij hj hlo hhi
 refine c_seq ?_
 refine c_rseq (n := 49) ⟨rfl, rfl⟩ ?_
 refine s_val (r_move rfl) ?_
 refine s_val (r_move rfl) ?_
 refine s_val (r_lss rfl rfl) ?_
 refine c_nil (l' := [_,_,_,_,_,_,_,_,_,_,_,_,_,_,_,_,_,_,_,_,_,_,_,_,_,_,_,_,_,_,_,_,_,_,_,_,_,_,_,_,_,_,_,_,_,_,_,_,_]) rfl ?_
 refine c_if rfl (fun h17 => ?_) (fun h17 => ?_)
 ·skip
  refine wp_skip ?_
  refine x_thenNormal ?_
  refine wp_block ?_
  refine c_rseq (n := 49) ⟨rfl, rfl⟩ ?_
  obtain ⟨h, hh⟩ : ∃ h : Nat, h = (i + j) / 2 := ⟨_, rfl⟩
  refine s_val (r_move rfl) ?_
  refine s_val (r_move rfl) ?_
  refine s_val (r_add rfl rfl (w_i64 (by omega) (by omega))) ?_
  refine s_val (r_conv Try.runUnderlying3 Try.runUnderlying102 rfl (w_u64 (by omega) (by omega))) ?_
  refine s_val (r_shr (r := (h : Int)) rfl rfl (by omega) ((shr1 _ _).trans (by omega))) ?_
  refine s_val (r_conv Try.runUnderlying102 Try.runUnderlying3 rfl (w_i64 (by omega) (by omega))) ?_
  refine s_val (r_assign rfl) ?_
  refine c_nil (l' := [_,_,_,_,_,_,_,_,_,_,_,_,_,_,_,_,_,_,_,_,_,_,_,_,_,_,_,_,_,_,_,_,_,_,_,_,_,_,_,_,_,_,_,_,_,_,_,_,_]) rfl ?_
  refine c_rseq (n := 49) ⟨rfl, rfl⟩ ?_
  obtain ⟨bh, off, pre, post, T, fz, rfl, hb, hp⟩ := hr (by omega)
  refine s_val (r_move rfl) ?_
  refine s_val (r_move rfl) ?_
  refine s_val (r_move rfl) ?_
  refine s_val (r_indexAddrS Try.runUnderlying85 Try.sizeOf88 rfl rfl (by omega) (by omega)) ?_
  refine s_val (r_loadn Try.isAgg88 Try.sizeOf88 rfl (H.rd0 hb) (hs_tdn _ _ _ _ h hp (by omega)) (by first | exact (kC_length _) | exact (hC_length _) | exact rfl)) ?_
  refine s_val (r_move rfl) ?_
  refine s_call (r_callv Try.call54 rfl (ec rfl (ec rfl en)) rfl) (find1_spec _ _ _) ?_
  rintro v w ⟨rfl, HC⟩
  replace H := H.quiet HC
  refine s_val (r_lss rfl rfl) ?_
  refine c_nil (l' := [_,_,_,_,_,_,_,_,_,_,_,_,_,_,_,_,_,_,_,_,_,_,_,_,_,_,_,_,_,_,_,_,_,_,_,_,_,_,_,_,_,_,_,_,_,_,_,_,_]) rfl ?_
  refine c_if rfl (fun h31 => ?_) (fun h31 => ?_)
  ·skip
   have hcm := cmpI_neg.1 h31
   refine c_region (n := 49) ⟨rfl, rfl⟩ ?_
   refine s_val (r_move rfl) ?_
   refine s_val (r_add rfl rfl (w_i64 (by omega) (by omega))) ?_
   refine s_val (r_assign rfl) ?_
   refine c_nil0 (l' := [_,_,_,_,_,_,_,_,_,_,_,_,_,_,_,_,_,_,_,_,_,_,_,_,_,_,_,_,_,_,_,_,_,_,_,_,_,_,_,_,_,_,_,_,_,_,_,_,_]) rfl ?_
   refine x_blockNormal ?_
   exact ⟨(h + 1, j), _, rfl, ⟨_,_,_,_,_,_,_,_,_,_,_,_,_,_,_,_,_,_,_,_,_, rfl, (by dsimp only; omega), hj, (fun _ => hcm), hhi, H⟩, by dsimp only; omega⟩
  ·skip
   have hcm := cmpI_nneg.1 h31
   refine c_region (n := 49) ⟨rfl, rfl⟩ ?_
   refine s_val (r_move rfl) ?_
   refine s_val (r_assign rfl) ?_
   refine c_nil0 (l' := [_,_,_,_,_,_,_,_,_,_,_,_,_,_,_,_,_,_,_,_,_,_,_,_,_,_,_,_,_,_,_,_,_,_,_,_,_,_,_,_,_,_,_,_,_,_,_,_,_]) rfl ?_
   refine x_blockNormal ?_
   exact ⟨(i, h), _, rfl, ⟨_,_,_,_,_,_,_,_,_,_,_,_,_,_,_,_,_,_,_,_,_, rfl, (by dsimp only; omega), (by dsimp only; omega), hlo, (fun _ => hcm), H⟩, by dsimp only; omega⟩
 ·skip
  obtain rfl : i = j := by omega
  refine wp_exit (x_thenExit (x_thenExit (x_blockHit ?_)))
  refine x_thenNormal ?_
  refine c_rseq (n := 49) ⟨rfl, rfl⟩ ?_
  refine s_val (r_move rfl) ?_
  refine s_val (r_move rfl) ?_
  refine s_val (r_move rfl) ?_
  refine s_test (r_lss rfl rfl) (fun h38 => ?_) (fun h38 => ?_)
  ·skip
   refine s_val (r_move rfl) ?_
   refine g_yes rfl rfl ?_
   obtain ⟨bh, off, pre, post, T, fz, rfl, hb, hp⟩ := hr (by omega)
   refine s_val (r_move rfl) ?_
   refine g_yes rfl rfl ?_
   refine s_val (r_move rfl) ?_
   refine g_yes rfl rfl ?_
   refine s_val (r_move rfl) ?_
   refine g_yes rfl rfl ?_
   refine s_val (r_indexAddrS Try.runUnderlying85 Try.sizeOf88 rfl rfl (by omega) (by omega)) ?_
   refine g_yes rfl rfl ?_
   refine s_val (r_loadn Try.isAgg88 Try.sizeOf88 rfl (H.rd0 hb) (hs_tdn _ _ _ _ i hp (by omega)) (by first | exact (kC_length _) | exact (hC_length _) | exact rfl)) ?_
   refine g_yes rfl rfl ?_
   refine s_val (r_move rfl) ?_
   refine g_yes rfl rfl ?_
   refine s_call (r_callv Try.call54 rfl (ec rfl (ec rfl en)) rfl) (find1_spec _ _ _) ?_
   rintro v w ⟨rfl, HC⟩
   replace H := H.quiet HC
   refine g_yes rfl rfl ?_
   refine s_val (r_eql rfl rfl) ?_
   refine s_val (r_pickt rfl rfl) ?_
   refine s_val (r_assign rfl) ?_
   refine s_val (r_assign rfl) ?_
   refine c_nil (l' := [_,_,_,_,_,_,_,_,_,_,_,_,_,_,_,_,_,_,_,_,_,_,_,_,_,_,_,_,_,_,_,_,_,_,_,_,_,_,_,_,_,_,_,_,_,_,_,_,_]) rfl ?_
   refine wp_ret ?_
   refine e_ret (res2 rfl rfl rfl) ⟨_, rfl, ?_⟩
   exact ⟨_, ⟨hj, hlo, hhi⟩, tup_dec (by rw [cmpI_zero]; exact ⟨fun h => ⟨by omega, h⟩, fun h => h.2⟩), H⟩
  ·skip
   refine s_val (r_move rfl) ?_
   refine g_no rfl rfl (by decide) ?_
   refine g_no rfl rfl (by decide) ?_
   refine g_no rfl rfl (by decide) ?_
   refine g_no rfl rfl (by decide) ?_
   refine g_no rfl rfl (by decide) ?_
   refine g_no rfl rfl (by decide) ?_
   refine g_no rfl rfl (by decide) ?_
   refine g_no rfl rfl (by decide) ?_
   refine s_val (r_pickf rfl rfl) ?_
   refine s_val (r_assign rfl) ?_
   refine s_val (r_assign rfl) ?_
   refine c_nil (l' := [_,_,_,_,_,_,_,_,_,_,_,_,_,_,_,_,_,_,_,_,_,_,_,_,_,_,_,_,_,_,_,_,_,_,_,_,_,_,_,_,_,_,_,_,_,_,_,_,_]) rfl ?_
   refine wp_ret ?_
   refine e_ret (res2 rfl rfl rfl) ⟨_, rfl, ?_⟩
   exact ⟨_, ⟨hj, hlo, hhi⟩, tup_false (by omega), H⟩

set_option maxHeartbeats 4000000 in
theorem find_spec (bt : Nat) (ci : Value) (a : Option Addr) (cap : Nat) (Tt : TypeId) (fzt : Nat × Nat) (xs : List Held) (hl : xs.length ≤ 4611686018427387904) (hv : Valid xs) (n : Int) (hn0 : 0 ≤ n) (w0 : World) (hbt : w0.heap[bt]? = some (.cells [ci, .slice a xs.length cap].toArray Tt fzt)) (hr : HRow w0 a xs) :
  Calls Try.prog 33 #[.pointer (some ⟨bt, 0, none⟩), .int .u64 n] w0 fun e w => ∃ v, e = .returned v ∧ (∃ i ok, FindR xs n i ok ∧ v = .tuple #[.int .i64 (i : Nat), .bool ok] ∧ St w0 [] w []) := by
 have H := St.refl w0
 refine c_enter (args := [.pointer (some ⟨bt, 0, none⟩), .int .u64 n]) (l := [.pointer (some ⟨bt, 0, none⟩), .int .u64 n, undef, undef, undef, undef, undef, undef, undef, undef, undef, undef, undef, undef, undef, undef, undef, undef, undef, undef, undef, undef, undef, undef, undef, undef, undef, undef, undef, undef, undef, undef, undef, undef, undef, undef, undef, undef, undef, undef, undef, undef, undef, undef, undef, undef, undef, undef, undef, undef, undef, undef, undef, undef]) Try.func33 Try.ntmps33 rfl rfl ?_
 refine c_rseq (n := 54) ⟨rfl, rfl⟩ ?_
 refine s_val (r_assign rfl) ?_
 refine s_val (r_assign rfl) ?_
 refine c_nil (l' := [_,_,_,_,_,_,_,_,_,_,_,_,_,_,_,_,_,_,_,_,_,_,_,_,_,_,_,_,_,_,_,_,_,_,_,_,_,_,_,_,_,_,_,_,_,_,_,_,_,_,_,_,_,_]) rfl ?_
 refine c_seq ?_
 refine c_rseq (n := 54) ⟨rfl, rfl⟩ ?_
 refine s_val (r_move rfl) ?_
 refine s_val (r_nilpF Try.runUnderlying31 rfl rfl) ?_
 refine s_val (r_move rfl) ?_
 refine g_yes rfl rfl ?_
 refine s_val (r_move rfl) ?_
 refine g_yes rfl rfl ?_
 refine s_call (r_call Try.call52 (ec rfl en)) (many_spec _ (by omega) (by omega) _) ?_
 rintro v w ⟨rfl, HC⟩
 replace H := H.quiet HC
 refine g_yes rfl rfl ?_
 refine s_val (r_geq rfl rfl) ?_
 refine s_val (r_pickf rfl rfl) ?_
 refine c_nil (l' := [_,_,_,_,_,_,_,_,_,_,_,_,_,_,_,_,_,_,_,_,_,_,_,_,_,_,_,_,_,_,_,_,_,_,_,_,_,_,_,_,_,_,_,_,_,_,_,_,_,_,_,_,_,_]) rfl ?_
 refine c_if rfl (fun h14 => ?_) (fun h14 => ?_)
 ·skip
  refine c_rseq (n := 54) ⟨rfl, rfl⟩ ?_
  refine s_val (r_assign rfl) ?_
  refine s_val (r_assign rfl) ?_
  refine c_nil (l' := [_,_,_,_,_,_,_,_,_,_,_,_,_,_,_,_,_,_,_,_,_,_,_,_,_,_,_,_,_,_,_,_,_,_,_,_,_,_,_,_,_,_,_,_,_,_,_,_,_,_,_,_,_,_]) rfl ?_
  refine wp_ret (x_thenRet ?_)
  refine e_ret (res2 rfl rfl rfl) ⟨_, rfl, ?_⟩
  exact ⟨0, false, find_none_big hv (by have := many_zero; omega), rfl, H⟩
 ·skip
  have hn1 : n < 131072 := by have := many_zero; omega
  refine wp_skip ?_
  refine x_thenNormal ?_
  refine c_rseq (n := 54) ⟨rfl, rfl⟩ ?_
  refine s_val (r_move rfl) ?_
  refine s_val (r_nilCheck rfl) ?_
  refine s_val (r_fieldAddr (k := 1) Try.runUnderlying90 rfl Try.sizeOf85 (by decide) rfl rfl) ?_
  refine s_val (r_load1 Try.isAgg85 rfl (H.rd0 hbt) rfl) ?_
  refine s_val (r_move rfl) ?_
  refine s_call (r_call Try.call53 (ec rfl (ec rfl (ec rfl en)))) (bs_spec _ _ _ _ (by omega) _ (hr.st H)) ?_
  rintro v w ⟨i, hbs, rfl, HC⟩
  replace H := H.quiet HC
  refine s_val (r_move rfl) ?_
  refine s_val (r_extract rfl rfl) ?_
  refine s_val (r_extract rfl rfl) ?_
  refine s_val (r_assign rfl) ?_
  refine s_val (r_assign rfl) ?_
  refine c_nil (l' := [_,_,_,_,_,_,_,_,_,_,_,_,_,_,_,_,_,_,_,_,_,_,_,_,_,_,_,_,_,_,_,_,_,_,_,_,_,_,_,_,_,_,_,_,_,_,_,_,_,_,_,_,_,_]) rfl ?_
  refine c_seq ?_
  refine c_rseq (n := 54) ⟨rfl, rfl⟩ ?_
  refine s_val (r_move rfl) ?_
  refine c_nil (l' := [_,_,_,_,_,_,_,_,_,_,_,_,_,_,_,_,_,_,_,_,_,_,_,_,_,_,_,_,_,_,_,_,_,_,_,_,_,_,_,_,_,_,_,_,_,_,_,_,_,_,_,_,_,_]) rfl ?_
  refine c_if rfl (fun h24 => ?_) (fun h24 => ?_)
  ·skip
   refine c_rseq (n := 54) ⟨rfl, rfl⟩ ?_
   refine s_val (r_move rfl) ?_
   refine s_val (r_assign rfl) ?_
   refine s_val (r_assign rfl) ?_
   refine c_nil (l' := [_,_,_,_,_,_,_,_,_,_,_,_,_,_,_,_,_,_,_,_,_,_,_,_,_,_,_,_,_,_,_,_,_,_,_,_,_,_,_,_,_,_,_,_,_,_,_,_,_,_,_,_,_,_]) rfl ?_
   refine wp_ret (x_thenRet ?_)
   refine e_ret (res2 rfl rfl rfl) ⟨_, rfl, ?_⟩
   exact ⟨i, true, find_hit h24.1 h24.2, rfl, H⟩
  ·skip
   refine wp_skip ?_
   refine x_thenNormal ?_
   refine c_seq ?_
   refine c_seq ?_
   refine d_begin (sz := 54) ⟨rfl, rfl⟩ (by kernel_rfl) H (H) rfl ?_
   intro w H
   refine d_take (i := 0) rfl (by kernel_rfl) (fun _ _ _ h => h) H (fun _ _ => r_move rfl) rfl ?_
   refine d_take (i := 1) rfl (by kernel_rfl) (fun _ _ _ h => h) H (fun _ _ => r_eql rfl rfl) rfl ?_
   refine d_part (fun h27 => ?_) (fun h27 => ?_)
   ·skip
    refine d_take (i := 2) rfl (by kernel_rfl) (fun _ _ _ h => h) H (fun _ _ => r_move rfl) rfl ?_
    refine d_takeN (i := 3) rfl (by kernel_rfl) (fun _ _ _ h => h) rfl rfl (by decide) H rfl ?_
    refine d_takeN (i := 4) rfl (by kernel_rfl) (fun _ _ _ h => h) rfl rfl (by decide) H rfl ?_
    refine d_takeN (i := 5) rfl (by kernel_rfl) (fun _ _ _ h => h) rfl rfl (by decide) H rfl ?_
    refine d_takeN (i := 6) rfl (by kernel_rfl) (fun _ _ _ h => h) rfl rfl (by decide) H rfl ?_
    refine d_takeN (i := 7) rfl (by kernel_rfl) (fun _ _ _ h => h) rfl rfl (by decide) H rfl ?_
    refine d_takeN (i := 8) rfl (by kernel_rfl) (fun _ _ _ h => h) rfl rfl (by decide) H rfl ?_
    refine d_takeN (i := 9) rfl (by kernel_rfl) (fun _ _ _ h => h) rfl rfl (by decide) H rfl ?_
    refine d_takeN (i := 10) rfl (by kernel_rfl) (fun _ _ _ h => h) rfl rfl (by decide) H rfl ?_
    refine d_takeN (i := 11) rfl (by kernel_rfl) (fun _ _ _ h => h) rfl rfl (by decide) H rfl ?_
    refine d_takeN (i := 12) rfl (by kernel_rfl) (fun _ _ _ h => h) rfl rfl (by decide) H rfl ?_
    refine d_takeN (i := 13) rfl (by kernel_rfl) (fun _ _ _ h => h) rfl rfl (by decide) H rfl ?_
    refine d_takeN (i := 14) rfl (by kernel_rfl) (fun _ _ _ h => h) rfl rfl (by decide) H rfl ?_
    refine d_takeN (i := 15) rfl (by kernel_rfl) (fun _ _ _ h => h) rfl rfl (by decide) H rfl ?_
    refine d_takeN (i := 16) rfl (by kernel_rfl) (fun _ _ _ h => h) rfl rfl (by decide) H rfl ?_
    refine d_takeN (i := 17) rfl (by kernel_rfl) (fun _ _ _ h => h) rfl rfl (by decide) H rfl ?_
    refine d_takeN (i := 18) rfl (by kernel_rfl) (fun _ _ _ h => h) rfl rfl (by decide) H rfl ?_
    refine d_takeN (i := 19) rfl (by kernel_rfl) (fun _ _ _ h => h) rfl rfl (by decide) H rfl ?_
    refine d_takeN (i := 20) rfl (by kernel_rfl) (fun _ _ _ h => h) rfl rfl (by decide) H rfl ?_
    refine d_takeN (i := 21) rfl (by kernel_rfl) (fun _ _ _ h => h) rfl rfl (by decide) H rfl ?_
    refine d_takeN (i := 22) rfl (by kernel_rfl) (fun _ _ _ h => h) rfl rfl (by decide) H rfl ?_
    refine d_takeN (i := 23) rfl (by kernel_rfl) (fun _ _ _ h => h) rfl rfl (by decide) H rfl ?_
    refine d_takeN (i := 24) rfl (by kernel_rfl) (fun _ _ _ h => h) rfl rfl (by decide) H rfl ?_
    refine d_take (i := 25) rfl (by kernel_rfl) (fun _ _ _ h => h) H (fun _ _ => r_pickt rfl rfl) rfl ?_
    refine d_done (l' := [_,_,_,_,_,_,_,_,_,_,_,_,_,_,_,_,_,_,_,_,_,_,_,_,_,_,_,_,_,_,_,_,_,_,_,_,_,_,_,_,_,_,_,_,_,_,_,_,_,_,_,_,_,_]) (by kernel_rfl) rfl ?_
    refine x_thenNormal ?_
    refine c_ift rfl ?_
    refine c_rseq (n := 54) ⟨rfl, rfl⟩ ?_
    refine s_val (r_assign rfl) ?_
    refine s_val (r_assign rfl) ?_
    refine c_nil (l' := [_,_,_,_,_,_,_,_,_,_,_,_,_,_,_,_,_,_,_,_,_,_,_,_,_,_,_,_,_,_,_,_,_,_,_,_,_,_,_,_,_,_,_,_,_,_,_,_,_,_,_,_,_,_]) rfl ?_
    refine wp_ret (x_thenRet ?_)
    refine e_ret (res2 rfl rfl rfl) ⟨_, rfl, ?_⟩
    obtain rfl : i = 0 := by omega
    exact ⟨0, false, find_none_first hv hbs (fun h he => h24 ⟨h, he⟩), rfl, H⟩
   ·skip
    obtain ⟨m, rfl⟩ : ∃ m, i = m + 1 := ⟨i - 1, by omega⟩
    have hm := hbs.1
    obtain ⟨bh, off, pre, post, T, fz, rfl, hb, hp⟩ := hr (by omega)
    have hlt := hbs.2.1 (by omega)
    simp only [Nat.add_sub_cancel] at hlt
    obtain ⟨hd0, hd1, ha0, _, ha1⟩ := hv.get (i := m) (by omega)
    refine d_take (i := 2) rfl (by kernel_rfl) (fun _ _ _ h => h) H (fun _ _ => r_move rfl) rfl ?_
    refine d_takeG (i := 3) rfl (by kernel_rfl) (fun _ _ _ h => h) rfl rfl H (fun _ _ => r_move rfl) rfl ?_
    refine d_takeG (i := 4) rfl (by kernel_rfl) (fun _ _ _ h => h) rfl rfl H (fun _ _ => r_move rfl) rfl ?_
    refine d_takeG (i := 5) rfl (by kernel_rfl) (fun _ _ _ h => h) rfl rfl H (fun _ _ => r_nilCheck rfl) rfl ?_
    refine d_takeG (i := 6) rfl (by kernel_rfl) (fun _ _ _ h => h) rfl rfl H (fun _ _ => r_fieldAddr (k := 1) Try.runUnderlying90 rfl Try.sizeOf85 (by decide) rfl rfl) rfl ?_
    refine d_takeG (i := 7) rfl (by kernel_rfl) (fun _ _ _ h => h) rfl rfl H (fun _ HS => r_load1 Try.isAgg85 rfl (HS.rd0 hbt) rfl) rfl ?_
    refine d_takeG (i := 8) rfl (by kernel_rfl) (fun _ _ _ h => h) rfl rfl H (fun _ _ => r_move rfl) rfl ?_
    refine d_takeG (i := 9) rfl (by kernel_rfl) (fun _ _ _ h => h) rfl rfl H (fun _ _ => r_sub (r := (m : Int)) rfl rfl (w_i64e (by omega) (by omega) (by omega))) rfl ?_
    refine d_takeG (i := 10) rfl (by kernel_rfl) (fun _ _ _ h => h) rfl rfl H (fun _ _ => r_indexAddrS Try.runUnderlying85 Try.sizeOf88 rfl rfl (by omega) (by omega)) rfl ?_
    refine d_takeG (i := 11) rfl (by kernel_rfl) (fun _ _ _ h => h) rfl rfl H (fun _ _ => r_fieldAddr (k := 1) Try.runUnderlying88 rfl Try.sizeOf28 (by decide) rfl rfl) rfl ?_
    refine d_takeG (i := 12) rfl (by kernel_rfl) (fun _ _ _ h => h) rfl rfl H (fun _ HS => r_load1 Try.isAgg28 rfl (HS.rd0 hb) (hs_at _ _ _ _ m hp (by omega))) rfl ?_
    refine d_takeG (i := 13) rfl (by kernel_rfl) (fun _ _ _ h => h) rfl rfl H (fun _ _ => r_sub rfl rfl (w_u64 (by omega) (by omega))) rfl ?_
    refine d_takeG (i := 14) rfl (by kernel_rfl) (fun _ _ _ h => h) rfl rfl H (fun _ _ => r_move rfl) rfl ?_
    refine d_takeG (i := 15) rfl (by kernel_rfl) (fun _ _ _ h => h) rfl rfl H (fun _ _ => r_nilCheck rfl) rfl ?_
    refine d_takeG (i := 16) rfl (by kernel_rfl) (fun _ _ _ h => h) rfl rfl H (fun _ _ => r_fieldAddr (k := 1) Try.runUnderlying90 rfl Try.sizeOf85 (by decide) rfl rfl) rfl ?_
    refine d_takeG (i := 17) rfl (by kernel_rfl) (fun _ _ _ h => h) rfl rfl H (fun _ HS => r_load1 Try.isAgg85 rfl (HS.rd0 hbt) rfl) rfl ?_
    refine d_takeG (i := 18) rfl (by kernel_rfl) (fun _ _ _ h => h) rfl rfl H (fun _ _ => r_move rfl) rfl ?_
    refine d_takeG (i := 19) rfl (by kernel_rfl) (fun _ _ _ h => h) rfl rfl H (fun _ _ => r_sub (r := (m : Int)) rfl rfl (w_i64e (by omega) (by omega) (by omega))) rfl ?_
    refine d_takeG (i := 20) rfl (by kernel_rfl) (fun _ _ _ h => h) rfl rfl H (fun _ _ => r_indexAddrS Try.runUnderlying85 Try.sizeOf88 rfl rfl (by omega) (by omega)) rfl ?_
    refine d_takeG (i := 21) rfl (by kernel_rfl) (fun _ _ _ h => h) rfl rfl H (fun _ _ => r_fieldAddr (k := 0) Try.runUnderlying88 rfl Try.sizeOf3 (by decide) rfl rfl) rfl ?_
    refine d_takeG (i := 22) rfl (by kernel_rfl) (fun _ _ _ h => h) rfl rfl H (fun _ HS => r_load1 Try.isAgg3 rfl (HS.rd0 hb) (hs_depth _ _ _ _ m hp (by omega))) rfl ?_
    refine d_all1 (i := 23) (by kernel_rfl) ?_
    refine b_call rfl (go_some rfl rfl) (r_call Try.call52 (ec rfl en)) (many_spec _ (by omega) (by omega) _) rfl ?_
    rintro v w ⟨rfl, HC⟩
    replace H := H.quiet HC
    refine ⟨H, ?_⟩
    refine d_takeG (i := 24) rfl (by kernel_rfl) (fun _ _ _ h => h) rfl rfl H (fun _ _ => r_geq rfl rfl) rfl ?_
    refine d_take (i := 25) rfl (by kernel_rfl) (fun _ _ _ h => h) H (fun _ _ => r_pickf rfl rfl) rfl ?_
    refine d_done (l' := [_,_,_,_,_,_,_,_,_,_,_,_,_,_,_,_,_,_,_,_,_,_,_,_,_,_,_,_,_,_,_,_,_,_,_,_,_,_,_,_,_,_,_,_,_,_,_,_,_,_,_,_,_,_]) (by kernel_rfl) rfl ?_
    refine x_thenNormal ?_
    refine c_if rfl (fun h51 => ?_) (fun h51 => ?_)
    ·skip
     refine c_rseq (n := 54) ⟨rfl, rfl⟩ ?_
     refine s_val (r_assign rfl) ?_
     refine s_val (r_assign rfl) ?_
     refine c_nil (l' := [_,_,_,_,_,_,_,_,_,_,_,_,_,_,_,_,_,_,_,_,_,_,_,_,_,_,_,_,_,_,_,_,_,_,_,_,_,_,_,_,_,_,_,_,_,_,_,_,_,_,_,_,_,_]) rfl ?_
     refine wp_ret (x_thenRet ?_)
     refine e_ret (res2 rfl rfl rfl) ⟨_, rfl, ?_⟩
     exact ⟨0, false, find_none_gap hv hbs (fun h he => h24 ⟨h, he⟩) h51, rfl, H⟩
    ·skip
     refine wp_skip ?_
     refine x_thenNormal ?_
     refine c_rseq (n := 54) ⟨rfl, rfl⟩ ?_
     refine s_val (r_move rfl) ?_
     refine s_val (r_sub (r := (m : Int)) rfl rfl (w_i64e (by omega) (by omega) (by omega))) ?_
     refine s_val (r_assign rfl) ?_
     refine s_val (r_assign rfl) ?_
     refine c_nil (l' := [_,_,_,_,_,_,_,_,_,_,_,_,_,_,_,_,_,_,_,_,_,_,_,_,_,_,_,_,_,_,_,_,_,_,_,_,_,_,_,_,_,_,_,_,_,_,_,_,_,_,_,_,_,_]) rfl ?_
     refine wp_ret ?_
     refine e_ret (res2 rfl rfl rfl) ⟨_, rfl, ?_⟩
     exact ⟨m, true, find_in hbs h51, rfl, H⟩

set_option maxHeartbeats 4000000 in
theorem down1_spec (x : Held) (bb bt : Nat) (ci hv : Value) (Tb Tt : TypeId) (fzb fzt : Nat × Nat) (sl sr : Key → Key) (hci : SplitsBy Try.prog ci sl sr) (hd0 : 0 ≤ x.depth) (hd1 : x.depth < 17) (ha0 : 0 ≤ x.at_) (ha1 : x.at_ < 131072) (w0 : World) (hbb : w0.heap[bb]? = some (.cells [.pointer (some ⟨bt, 0, none⟩)].toArray Tb fzb)) (hbt : w0.heap[bt]? = some (.cells [ci, hv].toArray Tt fzt)) :
  Calls Try.prog 55 #[.agg (hC x).toArray, .pointer (some ⟨bb, 0, none⟩)] w0 fun e w => ∃ v, e = .returned v ∧ (v = .tuple #[.agg (hC (kidL sl x)).toArray, .agg (hC (kidR sr x)).toArray] ∧ St w0 [] w []) := by
 obtain ⟨Tc, vc, fc, rv, rfl, hE, hM, hC'⟩ := hci
 have H := St.refl w0
 refine c_enter (args := [.agg (hC x).toArray, .pointer (some ⟨bb, 0, none⟩)]) (l := [.agg (hC x).toArray, .pointer (some ⟨bb, 0, none⟩), undef, undef, undef, undef, undef, undef, undef, undef, undef, undef, undef, undef, undef, undef, undef, undef, undef, undef, undef, undef, undef, undef, undef, undef, undef, undef, undef, undef, undef, undef, undef, undef, undef, undef]) Try.func55 Try.ntmps55 rfl rfl ?_
 refine c_rseq (n := 36) ⟨rfl, rfl⟩ ?_
 refine s_new (m_box H rfl rfl) ?_
 intro w b2 H
 refine s_new (m_alloc (cs := (hC Held.zero)) H Try.zeroValue88 rfl) ?_
 intro w b3 H
 refine s_new (m_alloc (cs := (hC Held.zero)) H Try.zeroValue88 rfl) ?_
 intro w b4 H
 refine c_nil (l' := [_,_,_,_,_,_,_,_,_,_,_,_,_,_,_,_,_,_,_,_,_,_,_,_,_,_,_,_,_,_,_,_,_,_,_,_]) rfl ?_
 refine c_cut (fun (l0 : List Value) (l : List Value) (w : World) => ∃ (u7 u8 u9 u10 u11 u12 u13 u14 u15 u16 : Value) (b5 b6 : Nat), l = ovr l0 [N_, N_, N_, N_, N_, Y_ (.pointer (some ⟨b5, 0, none⟩)), Y_ (.pointer (some ⟨b6, 0, none⟩)), Y_ u7, Y_ u8, Y_ u9, Y_ u10, Y_ u11, Y_ u12, Y_ u13, Y_ u14, Y_ u15, Y_ u16] ∧ St w0 [] w [(b6, .cells (kC (sr x.seed)).toArray 24 (0, 0)), (b5, .cells (kC (sl x.seed)).toArray 24 (0, 0)), (b4, .cells (hC Held.zero).toArray 88 (0, 0)), (b3, .cells (hC Held.zero).toArray 88 (0, 0)), (b2, .cells (hC x).toArray 88 (0, 0))]) ?_ ?_
 ·skip
  refine d_begin (sz := 36) ⟨rfl, rfl⟩ (by kernel_rfl) H (H) rfl ?_
  intro w H
  refine d_take (i := 0) rfl (by kernel_rfl) (fun _ _ _ h => h) H (fun _ HS => r_load1 Try.isAgg31 rfl (HS.rd0 hbb) (by first | exact rfl | exact (hC_0 _) | exact (hC_00 _) | exact (hC_1 _))) rfl ?_
  refine d_take (i := 1) rfl (by kernel_rfl) (fun _ _ _ h => h) H (fun _ _ => r_nilCheck rfl) rfl ?_
  refine d_take (i := 2) rfl (by kernel_rfl) (fun _ _ _ h => h) H (fun _ _ => r_fieldAddr (k := 0) Try.runUnderlying90 rfl Try.sizeOf76 (by decide) rfl rfl) rfl ?_
  refine d_take (i := 3) rfl (by kernel_rfl) (fun _ _ _ h => h) H (fun _ HS => r_load1 Try.isAgg76 rfl (HS.rd0 hbt) (by first | exact rfl | exact (hC_0 _) | exact (hC_00 _) | exact (hC_1 _))) rfl ?_
  refine d_take (i := 4) rfl (by kernel_rfl) (fun _ _ _ h => h) H (fun _ _ => r_fieldAddr (k := 2) Try.runUnderlying88 rfl Try.sizeOf24 (by decide) rfl rfl) rfl ?_
  refine d_take (i := 5) rfl (by kernel_rfl) (fun _ _ _ h => h) H (fun _ HS => r_loadn Try.isAgg24 Try.sizeOf24 rfl (HS.at 2 rfl) (by first | exact (kC_td _) | exact (hC_td _) | exact (hC_seed _)) (by first | exact (kC_length _) | exact (hC_length _) | exact rfl)) rfl ?_
  refine d_all3 (i := 6) (j := 10) (k := 11) (by kernel_rfl) ?_ ?_ ?_
  ·skip
   refine b_call rfl go_none (r_invoke hE rfl hM (ec rfl en)) (hC' _ _) rfl ?_
   rintro v w ⟨rfl, HC⟩
   replace H := H.quiet HC
   refine ⟨H, ?_⟩
   refine d_take (i := 7) rfl (by kernel_rfl) (fun _ _ _ h => h) H (fun _ _ => r_move rfl) rfl ?_
   refine d_take (i := 8) rfl (by kernel_rfl) (fun _ _ _ h => h) H (fun _ _ => r_extract rfl rfl) rfl ?_
   refine d_take (i := 9) rfl (by kernel_rfl) (fun _ _ _ h => h) H (fun _ _ => r_extract rfl rfl) rfl ?_
   refine d_all2 (i := 10) (j := 11) (by kernel_rfl) ?_ ?_
   ·skip
    refine b_new rfl go_none (m_alloc (cs := (kC (By.zero 32))) H Try.zeroValue24 rfl) rfl (fun _ _ H => (H.sub (.cons _ (.cons_cons _ (.cons_cons _ (.cons_cons _ .slnil)))))) ?_
    intro w b5 H
    refine d_all1 (i := 11) (by kernel_rfl) ?_
    refine b_new rfl go_none (m_alloc (cs := (kC (By.zero 32))) H Try.zeroValue24 rfl) rfl (fun _ _ H => (H.sub (.cons _ (.cons _ (.cons_cons _ (.cons_cons _ (.cons_cons _ .slnil))))))) ?_
    intro w b6 H
    refine d_all1 (i := 12) (by kernel_rfl) ?_
    refine b_st rfl go_none (m_storen H 1 32 Try.sizeOf24 rfl rfl (by first | exact (kC_length _) | exact (hC_length _)) (by first | exact (kC_one _) | exact (hC_one _)) rfl (by first | exact (by rw [kC_length]; omega) | exact (by rw [hC_length]; omega)) (by first | exact (kC_sp _ _) | exact (hC_sp _ _))) (L' := [_,_,_,_,_]) rfl rfl (fun _ H => (H.sub (.cons _ (.cons _ (.cons_cons _ (.cons_cons _ (.cons_cons _ .slnil))))))) ?_
    intro w H
    refine d_all1 (i := 13) (by kernel_rfl) ?_
    refine b_st rfl go_none (m_storen H 0 32 Try.sizeOf24 rfl rfl (by first | exact (kC_length _) | exact (hC_length _)) (by first | exact (kC_one _) | exact (hC_one _)) rfl (by first | exact (by rw [kC_length]; omega) | exact (by rw [hC_length]; omega)) (by first | exact (kC_sp _ _) | exact (hC_sp _ _))) (L' := [_,_,_,_,_]) rfl rfl (fun _ H => (H.sub (.cons _ (.cons _ (.cons_cons _ (.cons_cons _ (.cons_cons _ .slnil))))))) ?_
    intro w H
    refine d_done (l' := [_,_,_,_,_,_,_,_,_,_,_,_,_,_,_,_,_,_,_,_,_,_,_,_,_,_,_,_,_,_,_,_,_,_,_,_]) (by kernel_rfl) rfl ?_
    exact ⟨_, rfl, ⟨_,_,_,_,_,_,_,_,_,_,_,_, rfl, H⟩⟩
   ·skip
    refine b_new rfl go_none (m_alloc (cs := (kC (By.zero 32))) H Try.zeroValue24 rfl) rfl (fun _ _ H => (H.sub (.cons _ (.cons_cons _ (.cons_cons _ (.cons_cons _ .slnil)))))) ?_
    intro w b6 H
    refine d_all1 (i := 10) (by kernel_rfl) ?_
    refine b_new rfl go_none (m_alloc (cs := (kC (By.zero 32))) H Try.zeroValue24 rfl) rfl (fun _ _ H => (H.sub (.cons _ (.cons _ (.cons_cons _ (.cons_cons _ (.cons_cons _ .slnil))))))) ?_
    intro w b5 H
    refine d_all1 (i := 12) (by kernel_rfl) ?_
    refine b_st rfl go_none (m_storen H 0 32 Try.sizeOf24 rfl rfl (by first | exact (kC_length _) | exact (hC_length _)) (by first | exact (kC_one _) | exact (hC_one _)) rfl (by first | exact (by rw [kC_length]; omega) | exact (by rw [hC_length]; omega)) (by first | exact (kC_sp _ _) | exact (hC_sp _ _))) (L' := [_,_,_,_,_]) rfl rfl (fun _ H => (H.sub (.cons _ (.cons _ (.cons_cons _ (.cons_cons _ (.cons_cons _ .slnil))))))) ?_
    intro w H
    refine d_all1 (i := 13) (by kernel_rfl) ?_
    refine b_st rfl go_none (m_storen H 1 32 Try.sizeOf24 rfl rfl (by first | exact (kC_length _) | exact (hC_length _)) (by first | exact (kC_one _) | exact (hC_one _)) rfl (by first | exact (by rw [kC_length]; omega) | exact (by rw [hC_length]; omega)) (by first | exact (kC_sp _ _) | exact (hC_sp _ _))) (L' := [_,_,_,_,_]) rfl rfl (fun _ H => (H.sub (.cons _ (.cons _ (.cons_cons _ (.cons_cons _ (.cons_cons _ .slnil))))))) ?_
    intro w H
    refine d_done (l' := [_,_,_,_,_,_,_,_,_,_,_,_,_,_,_,_,_,_,_,_,_,_,_,_,_,_,_,_,_,_,_,_,_,_,_,_]) (by kernel_rfl) rfl ?_
    replace H := H.swp 0 (L' := [_,_,_,_,_]) rfl
    exact ⟨_, rfl, ⟨_,_,_,_,_,_,_,_,_,_,_,_, rfl, H⟩⟩
  ·skip
   refine b_new rfl go_none (m_alloc (cs := (kC (By.zero 32))) H Try.zeroValue24 rfl) rfl (fun _ _ H => (H.sub (.cons _ (.cons_cons _ (.cons_cons _ (.cons_cons _ .slnil)))))) ?_
   intro w b5 H
   refine d_all2 (i := 6) (j := 11) (by kernel_rfl) ?_ ?_
   ·skip
    refine b_call rfl go_none (r_invoke hE rfl hM (ec rfl en)) (hC' _ _) rfl ?_
    rintro v w ⟨rfl, HC⟩
    replace H := H.quiet HC
    refine ⟨(H.sub (.cons _ (.cons_cons _ (.cons_cons _ (.cons_cons _ .slnil))))), ?_⟩
    refine d_take (i := 7) rfl (by kernel_rfl) (fun _ _ _ h => h) (H.sub (.cons _ (.cons_cons _ (.cons_cons _ (.cons_cons _ .slnil))))) (fun _ _ => r_move rfl) rfl ?_
    refine d_take (i := 8) rfl (by kernel_rfl) (fun _ _ _ h => h) (H.sub (.cons _ (.cons_cons _ (.cons_cons _ (.cons_cons _ .slnil))))) (fun _ _ => r_extract rfl rfl) rfl ?_
    refine d_take (i := 9) rfl (by kernel_rfl) (fun _ _ _ h => h) (H.sub (.cons _ (.cons_cons _ (.cons_cons _ (.cons_cons _ .slnil))))) (fun _ _ => r_extract rfl rfl) rfl ?_
    refine d_all1 (i := 11) (by kernel_rfl) ?_
    refine b_new rfl go_none (m_alloc (cs := (kC (By.zero 32))) H Try.zeroValue24 rfl) rfl (fun _ _ H => (H.sub (.cons _ (.cons _ (.cons_cons _ (.cons_cons _ (.cons_cons _ .slnil))))))) ?_
    intro w b6 H
    refine d_all1 (i := 12) (by kernel_rfl) ?_
    refine b_st rfl go_none (m_storen H 1 32 Try.sizeOf24 rfl rfl (by first | exact (kC_length _) | exact (hC_length _)) (by first | exact (kC_one _) | exact (hC_one _)) rfl (by first | exact (by rw [kC_length]; omega) | exact (by rw [hC_length]; omega)) (by first | exact (kC_sp _ _) | exact (hC_sp _ _))) (L' := [_,_,_,_,_]) rfl rfl (fun _ H => (H.sub (.cons _ (.cons _ (.cons_cons _ (.cons_cons _ (.cons_cons _ .slnil))))))) ?_
    intro w H
    refine d_all1 (i := 13) (by kernel_rfl) ?_
    refine b_st rfl go_none (m_storen H 0 32 Try.sizeOf24 rfl rfl (by first | exact (kC_length _) | exact (hC_length _)) (by first | exact (kC_one _) | exact (hC_one _)) rfl (by first | exact (by rw [kC_length]; omega) | exact (by rw [hC_length]; omega)) (by first | exact (kC_sp _ _) | exact (hC_sp _ _))) (L' := [_,_,_,_,_]) rfl rfl (fun _ H => (H.sub (.cons _ (.cons _ (.cons_cons _ (.cons_cons _ (.cons_cons _ .slnil))))))) ?_
    intro w H
    refine d_done (l' := [_,_,_,_,_,_,_,_,_,_,_,_,_,_,_,_,_,_,_,_,_,_,_,_,_,_,_,_,_,_,_,_,_,_,_,_]) (by kernel_rfl) rfl ?_
    exact ⟨_, rfl, ⟨_,_,_,_,_,_,_,_,_,_,_,_, rfl, H⟩⟩
   ·skip
    refine b_new rfl go_none (m_alloc (cs := (kC (By.zero 32))) H Try.zeroValue24 rfl) rfl (fun _ _ H => (H.sub (.cons _ (.cons _ (.cons_cons _ (.cons_cons _ (.cons_cons _ .slnil))))))) ?_
    intro w b6 H
    refine d_all1 (i := 6) (by kernel_rfl) ?_
    refine b_call rfl go_none (r_invoke hE rfl hM (ec rfl en)) (hC' _ _) rfl ?_
    rintro v w ⟨rfl, HC⟩
    replace H := H.quiet HC
    refine ⟨(H.sub (.cons _ (.cons _ (.cons_cons _ (.cons_cons _ (.cons_cons _ .slnil)))))), ?_⟩
    refine d_take (i := 7) rfl (by kernel_rfl) (fun _ _ _ h => h) (H.sub (.cons _ (.cons _ (.cons_cons _ (.cons_cons _ (.cons_cons _ .slnil)))))) (fun _ _ => r_move rfl) rfl ?_
    refine d_take (i := 8) rfl (by kernel_rfl) (fun _ _ _ h => h) (H.sub (.cons _ (.cons _ (.cons_cons _ (.cons_cons _ (.cons_cons _ .slnil)))))) (fun _ _ => r_extract rfl rfl) rfl ?_
    refine d_take (i := 9) rfl (by kernel_rfl) (fun _ _ _ h => h) (H.sub (.cons _ (.cons _ (.cons_cons _ (.cons_cons _ (.cons_cons _ .slnil)))))) (fun _ _ => r_extract rfl rfl) rfl ?_
    refine d_all1 (i := 12) (by kernel_rfl) ?_
    refine b_st rfl go_none (m_storen H 1 32 Try.sizeOf24 rfl rfl (by first | exact (kC_length _) | exact (hC_length _)) (by first | exact (kC_one _) | exact (hC_one _)) rfl (by first | exact (by rw [kC_length]; omega) | exact (by rw [hC_length]; omega)) (by first | exact (kC_sp _ _) | exact (hC_sp _ _))) (L' := [_,_,_,_,_]) rfl rfl (fun _ H => (H.sub (.cons _ (.cons _ (.cons_cons _ (.cons_cons _ (.cons_cons _ .slnil))))))) ?_
    intro w H
    refine d_all1 (i := 13) (by kernel_rfl) ?_
    refine b_st rfl go_none (m_storen H 0 32 Try.sizeOf24 rfl rfl (by first | exact (kC_length _) | exact (hC_length _)) (by first | exact (kC_one _) | exact (hC_one _)) rfl (by first | exact (by rw [kC_length]; omega) | exact (by rw [hC_length]; omega)) (by first | exact (kC_sp _ _) | exact (hC_sp _ _))) (L' := [_,_,_,_,_]) rfl rfl (fun _ H => (H.sub (.cons _ (.cons _ (.cons_cons _ (.cons_cons _ (.cons_cons _ .slnil))))))) ?_
    intro w H
    refine d_done (l' := [_,_,_,_,_,_,_,_,_,_,_,_,_,_,_,_,_,_,_,_,_,_,_,_,_,_,_,_,_,_,_,_,_,_,_,_]) (by kernel_rfl) rfl ?_
    exact ⟨_, rfl, ⟨_,_,_,_,_,_,_,_,_,_,_,_, rfl, H⟩⟩
  ·skip
   refine b_new rfl go_none (m_alloc (cs := (kC (By.zero 32))) H Try.zeroValue24 rfl) rfl (fun _ _ H => (H.sub (.cons _ (.cons_cons _ (.cons_cons _ (.cons_cons _ .slnil)))))) ?_
   intro w b6 H
   refine d_all2 (i := 6) (j := 10) (by kernel_rfl) ?_ ?_
   ·skip
    refine b_call rfl go_none (r_invoke hE rfl hM (ec rfl en)) (hC' _ _) rfl ?_
    rintro v w ⟨rfl, HC⟩
    replace H := H.quiet HC
    refine ⟨(H.sub (.cons _ (.cons_cons _ (.cons_cons _ (.cons_cons _ .slnil))))), ?_⟩
    refine d_take (i := 7) rfl (by kernel_rfl) (fun _ _ _ h => h) (H.sub (.cons _ (.cons_cons _ (.cons_cons _ (.cons_cons _ .slnil))))) (fun _ _ => r_move rfl) rfl ?_
    refine d_take (i := 8) rfl (by kernel_rfl) (fun _ _ _ h => h) (H.sub (.cons _ (.cons_cons _ (.cons_cons _ (.cons_cons _ .slnil))))) (fun _ _ => r_extract rfl rfl) rfl ?_
    refine d_take (i := 9) rfl (by kernel_rfl) (fun _ _ _ h => h) (H.sub (.cons _ (.cons_cons _ (.cons_cons _ (.cons_cons _ .slnil))))) (fun _ _ => r_extract rfl rfl) rfl ?_
    refine d_all1 (i := 10) (by kernel_rfl) ?_
    refine b_new rfl go_none (m_alloc (cs := (kC (By.zero 32))) H Try.zeroValue24 rfl) rfl (fun _ _ H => (H.sub (.cons _ (.cons _ (.cons_cons _ (.cons_cons _ (.cons_cons _ .slnil))))))) ?_
    intro w b5 H
    refine d_all1 (i := 12) (by kernel_rfl) ?_
    refine b_st rfl go_none (m_storen H 0 32 Try.sizeOf24 rfl rfl (by first | exact (kC_length _) | exact (hC_length _)) (by first | exact (kC_one _) | exact (hC_one _)) rfl (by first | exact (by rw [kC_length]; omega) | exact (by rw [hC_length]; omega)) (by first | exact (kC_sp _ _) | exact (hC_sp _ _))) (L' := [_,_,_,_,_]) rfl rfl (fun _ H => (H.sub (.cons _ (.cons _ (.cons_cons _ (.cons_cons _ (.cons_cons _ .slnil))))))) ?_
    intro w H
    refine d_all1 (i := 13) (by kernel_rfl) ?_
    refine b_st rfl go_none (m_storen H 1 32 Try.sizeOf24 rfl rfl (by first | exact (kC_length _) | exact (hC_length _)) (by first | exact (kC_one _) | exact (hC_one _)) rfl (by first | exact (by rw [kC_length]; omega) | exact (by rw [hC_length]; omega)) (by first | exact (kC_sp _ _) | exact (hC_sp _ _))) (L' := [_,_,_,_,_]) rfl rfl (fun _ H => (H.sub (.cons _ (.cons _ (.cons_cons _ (.cons_cons _ (.cons_cons _ .slnil))))))) ?_
    intro w H
    refine d_done (l' := [_,_,_,_,_,_,_,_,_,_,_,_,_,_,_,_,_,_,_,_,_,_,_,_,_,_,_,_,_,_,_,_,_,_,_,_]) (by kernel_rfl) rfl ?_
    replace H := H.swp 0 (L' := [_,_,_,_,_]) rfl
    exact ⟨_, rfl, ⟨_,_,_,_,_,_,_,_,_,_,_,_, rfl, H⟩⟩
   ·skip
    refine b_new rfl go_none (m_alloc (cs := (kC (By.zero 32))) H Try.zeroValue24 rfl) rfl (fun _ _ H => (H.sub (.cons _ (.cons _ (.cons_cons _ (.cons_cons _ (.cons_cons _ .slnil))))))) ?_
    intro w b5 H
    refine d_all1 (i := 6) (by kernel_rfl) ?_
    refine b_call rfl go_none (r_invoke hE rfl hM (ec rfl en)) (hC' _ _) rfl ?_
    rintro v w ⟨rfl, HC⟩
    replace H := H.quiet HC
    refine ⟨(H.sub (.cons _ (.cons _ (.cons_cons _ (.cons_cons _ (.cons_cons _ .slnil)))))), ?_⟩
    refine d_take (i := 7) rfl (by kernel_rfl) (fun _ _ _ h => h) (H.sub (.cons _ (.cons _ (.cons_cons _ (.cons_cons _ (.cons_cons _ .slnil)))))) (fun _ _ => r_move rfl) rfl ?_
    refine d_take (i := 8) rfl (by kernel_rfl) (fun _ _ _ h => h) (H.sub (.cons _ (.cons _ (.cons_cons _ (.cons_cons _ (.cons_cons _ .slnil)))))) (fun _ _ => r_extract rfl rfl) rfl ?_
    refine d_take (i := 9) rfl (by kernel_rfl) (fun _ _ _ h => h) (H.sub (.cons _ (.cons _ (.cons_cons _ (.cons_cons _ (.cons_cons _ .slnil)))))) (fun _ _ => r_extract rfl rfl) rfl ?_
    refine d_all1 (i := 12) (by kernel_rfl) ?_
    refine b_st rfl go_none (m_storen H 0 32 Try.sizeOf24 rfl rfl (by first | exact (kC_length _) | exact (hC_length _)) (by first | exact (kC_one _) | exact (hC_one _)) rfl (by first | exact (by rw [kC_length]; omega) | exact (by rw [hC_length]; omega)) (by first | exact (kC_sp _ _) | exact (hC_sp _ _))) (L' := [_,_,_,_,_]) rfl rfl (fun _ H => (H.sub (.cons _ (.cons _ (.cons_cons _ (.cons_cons _ (.cons_cons _ .slnil))))))) ?_
    intro w H
    refine d_all1 (i := 13) (by kernel_rfl) ?_
    refine b_st rfl go_none (m_storen H 1 32 Try.sizeOf24 rfl rfl (by first | exact (kC_length _) | exact (hC_length _)) (by first | exact (kC_one _) | exact (hC_one _)) rfl (by first | exact (by rw [kC_length]; omega) | exact (by rw [hC_length]; omega)) (by first | exact (kC_sp _ _) | exact (hC_sp _ _))) (L' := [_,_,_,_,_]) rfl rfl (fun _ H => (H.sub (.cons _ (.cons _ (.cons_cons _ (.cons_cons _ (.cons_cons _ .slnil))))))) ?_
    intro w H
    refine d_done (l' := [_,_,_,_,_,_,_,_,_,_,_,_,_,_,_,_,_,_,_,_,_,_,_,_,_,_,_,_,_,_,_,_,_,_,_,_]) (by kernel_rfl) rfl ?_
    replace H := H.swp 0 (L' := [_,_,_,_,_]) rfl
    exact ⟨_, rfl, ⟨_,_,_,_,_,_,_,_,_,_,_,_, rfl, H⟩⟩
 ·skip
  rintro l w ⟨u7, u8, u9, u10, u11, u12, u13, u14, u15, u16, b5, b6, hl, H⟩
  obtain rfl := hl.trans (rfl : _ = [_,_,_,_,_,_,_,_,_,_,_,_,_,_,_,_,_,_,_,_,_,_,_,_,_,_,_,_,_,_,_,_,_,_,_,_])
  clear hl
  refine c_seq ?_
  refine d_begin (sz := 36) ⟨rfl, rfl⟩ (by kernel_rfl) H (H.sub (.cons_cons _ (.cons_cons _ (.cons _ (.cons _ (.cons_cons _ .slnil)))))) rfl ?_
  intro w H
  refine d_take (i := 0) rfl (by kernel_rfl) (fun _ _ _ h => h) (H.sub (.cons_cons _ (.cons_cons _ (.cons _ (.cons _ (.cons_cons _ .slnil)))))) (fun _ _ => r_fieldAddr (k := 0) Try.runUnderlying88 rfl Try.sizeOf3 (by decide) rfl rfl) rfl ?_
  refine d_take (i := 1) rfl (by kernel_rfl) (fun _ _ _ h => h) (H.sub (.cons_cons _ (.cons_cons _ (.cons _ (.cons _ (.cons_cons _ .slnil)))))) (fun _ HS => r_load1 Try.isAgg3 rfl (HS.at 2 rfl) (by first | exact rfl | exact (hC_0 _) | exact (hC_00 _) | exact (hC_1 _))) rfl ?_
  refine d_take (i := 2) rfl (by kernel_rfl) (fun _ _ _ h => h) (H.sub (.cons_cons _ (.cons_cons _ (.cons _ (.cons _ (.cons_cons _ .slnil)))))) (fun _ _ => r_add rfl rfl (w_i64 (by omega) (by omega))) rfl ?_
  refine d_take (i := 3) rfl (by kernel_rfl) (fun _ _ _ h => h) (H.sub (.cons_cons _ (.cons_cons _ (.cons _ (.cons _ (.cons_cons _ .slnil)))))) (fun _ _ => r_fieldAddr (k := 1) Try.runUnderlying88 rfl Try.sizeOf28 (by decide) rfl rfl) rfl ?_
  refine d_take (i := 4) rfl (by kernel_rfl) (fun _ _ _ h => h) (H.sub (.cons_cons _ (.cons_cons _ (.cons _ (.cons _ (.cons_cons _ .slnil)))))) (fun _ HS => r_load1 Try.isAgg28 rfl (HS.at 2 rfl) (by first | exact rfl | exact (hC_0 _) | exact (hC_00 _) | exact (hC_1 _))) rfl ?_
  refine d_take (i := 5) rfl (by kernel_rfl) (fun _ _ _ h => h) (H.sub (.cons_cons _ (.cons_cons _ (.cons _ (.cons _ (.cons_cons _ .slnil)))))) (fun _ HS => r_loadn Try.isAgg24 Try.sizeOf24 rfl (HS.at 1 rfl) (by first | exact (kC_td _) | exact (hC_td _) | exact (hC_seed _)) (by first | exact (kC_length _) | exact (hC_length _) | exact rfl)) rfl ?_
  refine d_take (i := 6) rfl (by kernel_rfl) (fun _ _ _ h => h) (H.sub (.cons_cons _ (.cons_cons _ (.cons _ (.cons _ (.cons_cons _ .slnil)))))) (fun _ _ => r_buildS Try.runUnderlying88 Try.zeroValue88 places88 (pc rfl (pc rfl (pc rfl pn))) (by first | exact (hfill _ _ _) | exact (hfill1 _))) rfl ?_
  refine d_take (i := 7) rfl (by kernel_rfl) (fun _ _ _ h => h) (H.sub (.cons_cons _ (.cons_cons _ (.cons _ (.cons _ (.cons_cons _ .slnil)))))) (fun _ _ => r_fieldAddr (k := 0) Try.runUnderlying88 rfl Try.sizeOf3 (by decide) rfl rfl) rfl ?_
  refine d_take (i := 8) rfl (by kernel_rfl) (fun _ _ _ h => h) (H.sub (.cons_cons _ (.cons_cons _ (.cons _ (.cons _ (.cons_cons _ .slnil)))))) (fun _ HS => r_load1 Try.isAgg3 rfl (HS.at 2 rfl) (by first | exact rfl | exact (hC_0 _) | exact (hC_00 _) | exact (hC_1 _))) rfl ?_
  refine d_take (i := 9) rfl (by kernel_rfl) (fun _ _ _ h => h) (H.sub (.cons_cons _ (.cons_cons _ (.cons _ (.cons _ (.cons_cons _ .slnil)))))) (fun _ _ => r_add rfl rfl (w_i64 (by omega) (by omega))) rfl ?_
  refine d_take (i := 10) rfl (by kernel_rfl) (fun _ _ _ h => h) (H.sub (.cons_cons _ (.cons_cons _ (.cons _ (.cons _ (.cons_cons _ .slnil)))))) (fun _ _ => r_fieldAddr (k := 1) Try.runUnderlying88 rfl Try.sizeOf28 (by decide) rfl rfl) rfl ?_
  refine d_take (i := 11) rfl (by kernel_rfl) (fun _ _ _ h => h) (H.sub (.cons_cons _ (.cons_cons _ (.cons _ (.cons _ (.cons_cons _ .slnil)))))) (fun _ HS => r_load1 Try.isAgg28 rfl (HS.at 2 rfl) (by first | exact rfl | exact (hC_0 _) | exact (hC_00 _) | exact (hC_1 _))) rfl ?_
  refine d_take (i := 12) rfl (by kernel_rfl) (fun _ _ _ h => h) (H.sub (.cons_cons _ (.cons_cons _ (.cons _ (.cons _ (.cons_cons _ .slnil)))))) (fun _ _ => r_fieldAddr (k := 0) Try.runUnderlying88 rfl Try.sizeOf3 (by decide) rfl rfl) rfl ?_
  refine d_take (i := 13) rfl (by kernel_rfl) (fun _ _ _ h => h) (H.sub (.cons_cons _ (.cons_cons _ (.cons _ (.cons _ (.cons_cons _ .slnil)))))) (fun _ HS => r_load1 Try.isAgg3 rfl (HS.at 2 rfl) (by first | exact rfl | exact (hC_0 _) | exact (hC_00 _) | exact (hC_1 _))) rfl ?_
  refine d_take (i := 14) rfl (by kernel_rfl) (fun _ _ _ h => h) (H.sub (.cons_cons _ (.cons_cons _ (.cons _ (.cons _ (.cons_cons _ .slnil)))))) (fun _ _ => r_add rfl rfl (w_i64 (by omega) (by omega))) rfl ?_
  refine d_take (i := 17) rfl (by kernel_rfl) (fun _ _ _ h => h) (H.sub (.cons_cons _ (.cons_cons _ (.cons _ (.cons _ (.cons_cons _ .slnil)))))) (fun _ HS => r_loadn Try.isAgg24 Try.sizeOf24 rfl (HS.at 0 rfl) (by first | exact (kC_td _) | exact (hC_td _) | exact (hC_seed _)) (by first | exact (kC_length _) | exact (hC_length _) | exact rfl)) rfl ?_
  refine d_all1 (i := 15) (by kernel_rfl) ?_
  have hmp := many_pos (x.depth + 1)
  have hml := many_le (n := x.depth + 1) (by omega)
  refine b_call rfl go_none (r_call Try.call52 (ec rfl en)) (many_spec _ (by omega) (by omega) _) rfl ?_
  rintro v w ⟨rfl, HC⟩
  replace H := H.quiet HC
  refine ⟨(H.sub (.cons_cons _ (.cons_cons _ (.cons _ (.cons _ (.cons_cons _ .slnil)))))), ?_⟩
  refine d_take (i := 16) rfl (by kernel_rfl) (fun _ _ _ h => h) (H.sub (.cons_cons _ (.cons_cons _ (.cons _ (.cons _ (.cons_cons _ .slnil)))))) (fun _ _ => r_add rfl rfl (w_u64 (by omega) (by omega))) rfl ?_
  refine d_take (i := 18) rfl (by kernel_rfl) (fun _ _ _ h => h) (H.sub (.cons_cons _ (.cons_cons _ (.cons _ (.cons _ (.cons_cons _ .slnil)))))) (fun _ _ => r_buildS Try.runUnderlying88 Try.zeroValue88 places88 (pc rfl (pc rfl (pc rfl pn))) (by first | exact (hfill _ _ _) | exact (hfill1 _))) rfl ?_
  refine d_all1 (i := 19) (by kernel_rfl) ?_
  refine b_st rfl go_none (m_storen H 3 34 Try.sizeOf88 rfl rfl (by first | exact (kC_length _) | exact (hC_length _)) (by first | exact (kC_one _) | exact (hC_one _)) rfl (by first | exact (by rw [kC_length]; omega) | exact (by rw [hC_length]; omega)) (by first | exact (kC_sp _ _) | exact (hC_sp _ _))) (L' := [_,_,_,_,_]) rfl rfl (fun _ H => (H.sub (.cons_cons _ (.cons_cons _ (.cons _ (.cons _ (.cons_cons _ .slnil))))))) ?_
  intro w H
  refine d_all1 (i := 20) (by kernel_rfl) ?_
  refine b_st rfl go_none (m_storen H 2 34 Try.sizeOf88 rfl rfl (by first | exact (kC_length _) | exact (hC_length _)) (by first | exact (kC_one _) | exact (hC_one _)) rfl (by first | exact (by rw [kC_length]; omega) | exact (by rw [hC_length]; omega)) (by first | exact (kC_sp _ _) | exact (hC_sp _ _))) (L' := [_,_,_,_,_]) rfl rfl (fun _ H => (H.sub (.cons_cons _ (.cons_cons _ (.cons _ (.cons _ (.cons_cons _ .slnil))))))) ?_
  intro w H
  refine d_done (l' := [_,_,_,_,_,_,_,_,_,_,_,_,_,_,_,_,_,_,_,_,_,_,_,_,_,_,_,_,_,_,_,_,_,_,_,_]) (by kernel_rfl) rfl ?_
  refine x_thenNormal ?_
  refine wp_ret ?_
  refine e_ret (rc_two rfl (rc_celln Try.isAgg88 Try.sizeOf88 rfl (H.at 3 rfl) (by first | exact (kC_td _) | exact (hC_td _) | exact (hC_seed _)) (by first | exact (kC_length _) | exact (hC_length _))) (rc_celln Try.isAgg88 Try.sizeOf88 rfl (H.at 2 rfl) (by first | exact (kC_td _) | exact (hC_td _) | exact (hC_seed _)) (by first | exact (kC_length _) | exact (hC_length _)))) ⟨_, rfl, ?_⟩
  exact ⟨rfl, H.sub (.cons _ (.cons _ (.cons _ (.cons _ (.cons _ .slnil)))))⟩

end Go.Proofs.Ytobfnieebiakeaa

