import Derived.Test.YtblphhclfloodaaP6
import Derived.Test.YtblphhclfloodaaK3
import Derived.Test.YtblphhclfloodaaProg
namespace Go.Proofs.Ytblphhclfloodaa
open Go Go.Er
set_option linter.unusedSimpArgs false in
theorem places41 : Places Try.prog #[⟨ "Depth", 3, 0, false, "", "", 0⟩, ⟨ "At", 31, 1, false, "", "", 8⟩, ⟨ "Seed", 23, 2, false, "", "", 16⟩] [(0, 1), (1, 1), (2, 32)] := fun w => by simp [Try.sizeOf23 w, Try.sizeOf3 w, Try.sizeOf31 w]
theorem bytesHeld : Try.t41.bytes = 48 := rfl

set_option maxHeartbeats 4000000 in
theorem many_spec (n : Int) (h0 : 0 ≤ n) (h1 : n ≤ 17) (w0 : World) :
    Calls Try.prog 37 #[.int .i64 n] w0 fun e w => ∃ v, e = .returned v ∧ (v = .int .u64 (many n) ∧ St w0 [] w []) := by
  have H := St.refl w0
  refine c_enter (args := [.int .i64 n]) (l := [.int .i64 n, undef, undef, undef, undef, undef, undef]) Try.func37 Try.ntmps37 rfl rfl ?_
  refine c_rseq (n := 7) ⟨rfl, rfl⟩ ?_
  refine s_val (r_assign rfl) ?_
  refine c_nil (l' := [_, _, _, _, _, _, _]) rfl ?_
  refine c_rseq (n := 7) ⟨rfl, rfl⟩ ?_
  refine s_val (r_move rfl) ?_
  refine s_val (r_sub rfl rfl (w_i64 (by omega) (by omega))) ?_
  refine s_val (r_conv Try.runUnderlying3 Try.runUnderlying42 rfl (w_u64 (by omega) (by omega))) ?_
  refine s_val (r_shl rfl rfl (by omega) rfl) ?_
  refine s_val (r_assign rfl) ?_
  refine c_nil (l' := [_, _, _, _, _, _, _]) rfl ?_
  refine wp_ret ?_
  refine e_ret (res1 rfl rfl) ⟨_, rfl, ?_⟩
  exact ⟨by rw [many_eq h0], H⟩

set_option maxHeartbeats 4000000 in
theorem isNaN_spec (n : Int) (w0 : World) :
    Calls Try.prog 48 #[.int .u64 n] w0 fun e w => ∃ v, e = .returned v ∧ (v = .bool false ∧ St w0 [] w []) := by
  have H := St.refl w0
  refine c_enter (args := [.int .u64 n]) (l := [.int .u64 n, undef, undef, undef, undef, undef]) Try.func48 Try.ntmps48 rfl rfl ?_
  refine c_rseq (n := 6) ⟨rfl, rfl⟩ ?_
  refine s_val (r_assign rfl) ?_
  refine c_nil (l' := [_, _, _, _, _, _]) rfl ?_
  refine c_rseq (n := 6) ⟨rfl, rfl⟩ ?_
  refine s_val (r_move rfl) ?_
  refine s_val (r_move rfl) ?_
  refine s_val (r_neq rfl rfl) ?_
  refine s_val (r_assign rfl) ?_
  refine c_nil (l' := [_, _, _, _, _, _]) rfl ?_
  refine wp_ret ?_
  refine e_ret (res1 rfl rfl) ⟨_, rfl, ?_⟩
  exact ⟨by simp, H⟩

set_option maxHeartbeats 4000000 in
theorem compare_spec (m n : Int) (w0 : World) :
    Calls Try.prog 33 #[.int .u64 m, .int .u64 n] w0 fun e w => ∃ v, e = .returned v ∧ (v = .int .i64 (cmpI m n) ∧ St w0 [] w []) := by
  have H := St.refl w0
  refine c_enter (args := [.int .u64 m, .int .u64 n]) (l := [.int .u64 m, .int .u64 n, undef, undef, undef, undef, undef, undef, undef, undef, undef, undef, undef, undef, undef, undef, undef, undef, undef, undef]) Try.func33 Try.ntmps33 rfl rfl ?_
  refine c_rseq (n := 20) ⟨rfl, rfl⟩ ?_
  refine s_val (r_assign rfl) ?_
  refine c_nil (l' := [_, _, _, _, _, _, _, _, _, _, _, _, _, _, _, _, _, _, _, _]) rfl ?_
  refine c_rseq (n := 20) ⟨rfl, rfl⟩ ?_
  refine s_val (r_move rfl) ?_
  refine s_call (r_call Try.call48 (ec rfl en)) (isNaN_spec _ _) ?_
  rintro v w ⟨rfl, HC⟩
  replace H := H.quiet HC
  refine s_val (r_assign rfl) ?_
  refine c_nil (l' := [_, _, _, _, _, _, _, _, _, _, _, _, _, _, _, _, _, _, _, _]) rfl ?_
  refine c_rseq (n := 20) ⟨rfl, rfl⟩ ?_
  refine s_val (r_move rfl) ?_
  refine s_call (r_call Try.call48 (ec rfl en)) (isNaN_spec _ _) ?_
  rintro v w ⟨rfl, HC⟩
  replace H := H.quiet HC
  refine s_val (r_assign rfl) ?_
  refine c_nil (l' := [_, _, _, _, _, _, _, _, _, _, _, _, _, _, _, _, _, _, _, _]) rfl ?_
  refine c_seq ?_
  refine c_rseq (n := 20) ⟨rfl, rfl⟩ ?_
  refine s_val (r_move rfl) ?_
  refine c_nil (l' := [_, _, _, _, _, _, _, _, _, _, _, _, _, _, _, _, _, _, _, _]) rfl ?_
  refine c_iff rfl ?_
  refine wp_skip ?_
  refine x_thenNormal ?_
  refine c_seq ?_
  refine c_rseq (n := 20) ⟨rfl, rfl⟩ ?_
  refine s_val (r_move rfl) ?_
  refine c_nil (l' := [_, _, _, _, _, _, _, _, _, _, _, _, _, _, _, _, _, _, _, _]) rfl ?_
  refine c_iff rfl ?_
  refine wp_skip ?_
  refine x_thenNormal ?_
  refine c_seq ?_
  refine c_rseq (n := 20) ⟨rfl, rfl⟩ ?_
  refine s_val (r_move rfl) ?_
  refine s_val (r_move rfl) ?_
  refine s_val (r_lss rfl rfl) ?_
  refine c_nil (l' := [_, _, _, _, _, _, _, _, _, _, _, _, _, _, _, _, _, _, _, _]) rfl ?_
  refine c_if rfl (fun h16 => ?_) (fun h16 => ?_)
  · skip
    refine c_rseq (n := 20) ⟨rfl, rfl⟩ ?_
    refine s_val (r_assign rfl) ?_
    refine c_nil (l' := [_, _, _, _, _, _, _, _, _, _, _, _, _, _, _, _, _, _, _, _]) rfl ?_
    refine wp_ret (x_thenRet ?_)
    refine e_ret (res1 rfl rfl) ⟨_, rfl, ?_⟩
    exact ⟨by unfold cmpI; first | rw [if_pos (by omega)] | rw [if_neg (by omega), if_pos (by omega)] | rw [if_neg (by omega), if_neg (by omega)], H⟩
  · skip
    refine wp_skip ?_
    refine x_thenNormal ?_
    refine c_seq ?_
    refine c_rseq (n := 20) ⟨rfl, rfl⟩ ?_
    refine s_val (r_move rfl) ?_
    refine s_val (r_move rfl) ?_
    refine s_val (r_gtr rfl rfl) ?_
    refine c_nil (l' := [_, _, _, _, _, _, _, _, _, _, _, _, _, _, _, _, _, _, _, _]) rfl ?_
    refine c_if rfl (fun h19 => ?_) (fun h19 => ?_)
    · skip
      refine c_rseq (n := 20) ⟨rfl, rfl⟩ ?_
      refine s_val (r_assign rfl) ?_
      refine c_nil (l' := [_, _, _, _, _, _, _, _, _, _, _, _, _, _, _, _, _, _, _, _]) rfl ?_
      refine wp_ret (x_thenRet ?_)
      refine e_ret (res1 rfl rfl) ⟨_, rfl, ?_⟩
      exact ⟨by unfold cmpI; first | rw [if_pos (by omega)] | rw [if_neg (by omega), if_pos (by omega)] | rw [if_neg (by omega), if_neg (by omega)], H⟩
    · skip
      refine wp_skip ?_
      refine x_thenNormal ?_
      refine c_rseq (n := 20) ⟨rfl, rfl⟩ ?_
      refine s_val (r_assign rfl) ?_
      refine c_nil (l' := [_, _, _, _, _, _, _, _, _, _, _, _, _, _, _, _, _, _, _, _]) rfl ?_
      refine wp_ret ?_
      refine e_ret (res1 rfl rfl) ⟨_, rfl, ?_⟩
      exact ⟨by unfold cmpI; first | rw [if_pos (by omega)] | rw [if_neg (by omega), if_pos (by omega)] | rw [if_neg (by omega), if_neg (by omega)], H⟩

set_option maxHeartbeats 4000000 in
theorem find1_spec (h : Held) (n : Int) (w0 : World) :
    Calls Try.prog 44 #[.agg (hC h).toArray, .int .u64 n] w0 fun e w => ∃ v, e = .returned v ∧ (v = .int .i64 (cmpI h.at_ n) ∧ St w0 [] w []) := by
  have H := St.refl w0
  refine c_enter (args := [.agg (hC h).toArray, .int .u64 n]) (l := [.agg (hC h).toArray, .int .u64 n, undef, undef, undef, undef, undef, undef, undef]) Try.func44 Try.ntmps44 rfl rfl ?_
  refine c_rseq (n := 9) ⟨rfl, rfl⟩ ?_
  refine s_new (m_box H rfl rfl) ?_
  intro w b2 H
  refine s_val (r_assign rfl) ?_
  refine c_nil (l' := [_, _, _, _, _, _, _, _, _]) rfl ?_
  refine c_rseq (n := 9) ⟨rfl, rfl⟩ ?_
  refine s_val (r_fieldAddr (k := 1) Try.runUnderlying41 rfl Try.sizeOf31 (by decide) rfl rfl) ?_
  refine s_val (r_load1 Try.isAgg31 rfl (H.at 0 rfl) rfl) ?_
  refine s_val (r_move rfl) ?_
  refine s_call (r_call Try.call33 (ec rfl (ec rfl en))) (compare_spec _ _ _) ?_
  rintro v w ⟨rfl, HC⟩
  replace H := H.quiet HC
  refine s_val (r_assign rfl) ?_
  refine c_nil (l' := [_, _, _, _, _, _, _, _, _]) rfl ?_
  refine wp_ret ?_
  refine e_ret (res1 rfl rfl) ⟨_, rfl, ?_⟩
  exact ⟨rfl, H.sub (.cons _ .slnil)⟩

set_option maxHeartbeats 4000000 in
theorem rmany_spec (n : Int) (h0 : 0 ≤ n) (h1 : n ≤ 17) (w0 : World) :
    Calls Try.prog 41 #[.int .i64 n] w0 fun e w => ∃ v, e = .returned v ∧ (v = .int .u64 (many n) ∧ St w0 [] w []) := by
  have H := St.refl w0
  refine c_enter (args := [.int .i64 n]) (l := [.int .i64 n, undef, undef, undef, undef, undef, undef, undef, undef, undef, undef, undef, undef]) Try.func41 Try.ntmps41 rfl rfl ?_
  refine c_rseq (n := 13) ⟨rfl, rfl⟩ ?_
  refine s_val (r_assign rfl) ?_
  refine c_nil (l' := [_, _, _, _, _, _, _, _, _, _, _, _, _]) rfl ?_
  refine c_rseq (n := 13) ⟨rfl, rfl⟩ ?_
  refine s_val (r_assign rfl) ?_
  refine c_nil (l' := [_, _, _, _, _, _, _, _, _, _, _, _, _]) rfl ?_
  refine c_seq ?_
  refine c_rseq (n := 13) ⟨rfl, rfl⟩ ?_
  refine s_val (r_move rfl) ?_
  refine s_val (r_assign rfl) ?_
  refine c_nil (l' := [_, _, _, _, _, _, _, _, _, _, _, _, _]) rfl ?_
  refine wp_block ?_
  refine c_loop (fun (l0 : List Value) (k : Nat) (l : List Value) (w : World) => ∃ (u6 u7 u8 u9 u10 u11 : Value) (x i : Int), l = ovr l0 [N_, N_, N_, Y_ (.int .u64 x), Y_ (.int .i64 i), N_, Y_ u6, Y_ u7, Y_ u8, Y_ u9, Y_ u10, Y_ u11] ∧ x = 2 ^ k ∧ i = n + k ∧ (k : Int) ≤ 17 - n ∧ St w0 [] w []) (fun (k : Nat) => 17 - k) 0 ⟨_, _, _, _, _, _, _, _, rfl, rfl, by omega, by omega, H⟩ ?_
  intro k l w ⟨u6, u7, u8, u9, u10, u11, x, i, hl, hx, hi, hk, H⟩
  obtain rfl := hl.trans (rfl : _ = [_, _, _, _, _, _, _, _, _, _, _, _, _])
  clear hl
  have hp : (2:Int) ^ k ≤ 131072 := pow_le17 k (by omega)
  have hp0 : (0:Int) < 2 ^ k := Int.pow_pos (by omega)
  refine c_seq ?_
  refine c_rseq (n := 13) ⟨rfl, rfl⟩ ?_
  refine s_val (r_move rfl) ?_
  refine s_val (r_lss rfl rfl) ?_
  refine c_nil (l' := [_, _, _, _, _, _, _, _, _, _, _, _, _]) rfl ?_
  refine c_if rfl (fun h7 => ?_) (fun h7 => ?_)
  · skip
    refine wp_skip ?_
    refine x_thenNormal ?_
    refine c_seq ?_
    refine wp_block ?_
    refine c_region (n := 13) ⟨rfl, rfl⟩ ?_
    refine s_val (r_move rfl) ?_
    refine s_val (r_mul rfl rfl (w_u64 (by omega) (by omega))) ?_
    refine s_val (r_assign rfl) ?_
    refine c_nil0 (l' := [_, _, _, _, _, _, _, _, _, _, _, _, _]) rfl ?_
    refine x_blockNormal ?_
    refine x_thenNormal ?_
    refine c_region (n := 13) ⟨rfl, rfl⟩ ?_
    refine s_val (r_move rfl) ?_
    refine s_val (r_add rfl rfl (w_i64 (by omega) (by omega))) ?_
    refine s_val (r_assign rfl) ?_
    refine c_nil0 (l' := [_, _, _, _, _, _, _, _, _, _, _, _, _]) rfl ?_
    exact ⟨k + 1, _, rfl, ⟨_, _, _, _, _, _, _, _, rfl, by rw [hx, pow_step], by omega, by omega, H⟩, by omega⟩
  · skip
    refine wp_exit (x_thenExit (x_thenExit (x_blockHit ?_)))
    refine x_thenNormal ?_
    refine c_rseq (n := 13) ⟨rfl, rfl⟩ ?_
    refine s_val (r_move rfl) ?_
    refine s_val (r_assign rfl) ?_
    refine c_nil (l' := [_, _, _, _, _, _, _, _, _, _, _, _, _]) rfl ?_
    refine wp_ret ?_
    refine e_ret (res1 rfl rfl) ⟨_, rfl, ?_⟩
    exact ⟨by rw [hx, many_of (n := n) (k := k) (by omega)], H⟩

set_option maxHeartbeats 4000000 in
theorem bs_spec (a : Option Addr) (cap : Nat) (xs : List Held) (n : Int) (hl : xs.length ≤ 4611686018427387904) (w0 : World) (hr : HRow w0 a xs) :
    Calls Try.prog 43 #[.slice a xs.length cap, .int .u64 n, .func (.func 44) #[] #[]] w0 fun e w => ∃ v, e = .returned v ∧ (∃ i : Nat, Bs xs n i ∧ v = .tuple #[.int .i64 i, .bool (decide (i < xs.length ∧ (nd xs i).at_ = n))] ∧ St w0 [] w []) := by
  have H := St.refl w0
  refine c_enter (args := [.slice a xs.length cap, .int .u64 n, .func (.func 44) #[] #[]]) (l := [.slice a xs.length cap, .int .u64 n, .func (.func 44) #[] #[], undef, undef, undef, undef, undef, undef, undef, undef, undef, undef, undef, undef, undef, undef, undef, undef, undef, undef, undef, undef, undef, undef, undef, undef, undef, undef, undef, undef, undef, undef, undef, undef, undef, undef, undef, undef, undef, undef, undef, undef, undef, undef, undef, undef, undef, undef]) Try.func43 Try.ntmps43 rfl rfl ?_
  refine c_rseq (n := 49) ⟨rfl, rfl⟩ ?_
  refine s_val (r_assign rfl) ?_
  refine s_val (r_assign rfl) ?_
  refine c_nil (l' := [_, _, _, _, _, _, _, _, _, _, _, _, _, _, _, _, _, _, _, _, _, _, _, _, _, _, _, _, _, _, _, _, _, _, _, _, _, _, _, _, _, _, _, _, _, _, _, _, _]) rfl ?_
  refine c_rseq (n := 49) ⟨rfl, rfl⟩ ?_
  refine s_val (r_move rfl) ?_
  refine s_val (r_lens Try.runUnderlying35 (ec rfl en)) ?_
  refine s_val (r_assign rfl) ?_
  refine c_nil (l' := [_, _, _, _, _, _, _, _, _, _, _, _, _, _, _, _, _, _, _, _, _, _, _, _, _, _, _, _, _, _, _, _, _, _, _, _, _, _, _, _, _, _, _, _, _, _, _, _, _]) rfl ?_
  refine c_rseq (n := 49) ⟨rfl, rfl⟩ ?_
  refine s_val (r_move rfl) ?_
  refine s_val (r_assign rfl) ?_
  refine s_val (r_assign rfl) ?_
  refine c_nil (l' := [_, _, _, _, _, _, _, _, _, _, _, _, _, _, _, _, _, _, _, _, _, _, _, _, _, _, _, _, _, _, _, _, _, _, _, _, _, _, _, _, _, _, _, _, _, _, _, _, _]) rfl ?_
  refine c_seq ?_
  refine wp_block ?_
  refine c_loop (fun (l0 : List Value) (t : Nat × Nat) (l : List Value) (w : World) => ∃ (u11 u15 u16 u17 u18 u19 u20 u21 u22 u23 u24 u25 u26 u27 u28 u29 u30 u31 u32 u33 u34 : Value) , l = ovr l0 [N_, N_, N_, N_, N_, N_, N_, N_, N_, Y_ (.int .i64 t.1), Y_ (.int .i64 t.2), Y_ u11, N_, N_, N_, Y_ u15, Y_ u16, Y_ u17, Y_ u18, Y_ u19, Y_ u20, Y_ u21, Y_ u22, Y_ u23, Y_ u24, Y_ u25, Y_ u26, Y_ u27, Y_ u28, Y_ u29, Y_ u30, Y_ u31, Y_ u32, Y_ u33, Y_ u34] ∧ t.1 ≤ t.2 ∧ t.2 ≤ xs.length ∧ (0 < t.1 → (nd xs (t.1 - 1)).at_ < n) ∧ (t.2 < xs.length → n ≤ (nd xs t.2).at_) ∧ St w0 [] w []) (fun (t : Nat × Nat) => t.2 - t.1) (0, xs.length) ⟨_, _, _, _, _, _, _, _, _, _, _, _, _, _, _, _, _, _, _, _, _, rfl, Nat.zero_le _, Nat.le_refl _, fun h => absurd h (Nat.lt_irrefl _), fun h => absurd h (Nat.lt_irrefl _), H⟩ ?_
  rintro ⟨i, j⟩ l w ⟨u11, u15, u16, u17, u18, u19, u20, u21, u22, u23, u24, u25, u26, u27, u28, u29, u30, u31, u32, u33, u34, hl, hij, hj, hlo, hhi, H⟩
  obtain rfl := hl.trans (rfl : _ = [_, _, _, _, _, _, _, _, _, _, _, _, _, _, _, _, _, _, _, _, _, _, _, _, _, _, _, _, _, _, _, _, _, _, _, _, _, _, _, _, _, _, _, _, _, _, _, _, _])
  clear hl
  dsimp only at hij hj hlo hhi
  refine c_seq ?_
  refine c_rseq (n := 49) ⟨rfl, rfl⟩ ?_
  refine s_val (r_move rfl) ?_
  refine s_val (r_move rfl) ?_
  refine s_val (r_lss rfl rfl) ?_
  refine c_nil (l' := [_, _, _, _, _, _, _, _, _, _, _, _, _, _, _, _, _, _, _, _, _, _, _, _, _, _, _, _, _, _, _, _, _, _, _, _, _, _, _, _, _, _, _, _, _, _, _, _, _]) rfl ?_
  refine c_if rfl (fun h17 => ?_) (fun h17 => ?_)
  · skip
    refine wp_skip ?_
    refine x_thenNormal ?_
    refine wp_block ?_
    refine c_rseq (n := 49) ⟨rfl, rfl⟩ ?_
    obtain ⟨h, hh⟩ : ∃ h : Nat, h = (i + j) / 2 := ⟨_, rfl⟩
    refine s_val (r_move rfl) ?_
    refine s_val (r_move rfl) ?_
    refine s_val (r_add rfl rfl (w_i64 (by omega) (by omega))) ?_
    refine s_val (r_conv Try.runUnderlying3 Try.runUnderlying42 rfl (w_u64 (by omega) (by omega))) ?_
    refine s_val (r_shr (r := (h : Int)) rfl rfl (by omega) ((shr1 _ _).trans (by omega))) ?_
    refine s_val (r_conv Try.runUnderlying42 Try.runUnderlying3 rfl (w_i64 (by omega) (by omega))) ?_
    refine s_val (r_assign rfl) ?_
    refine c_nil (l' := [_, _, _, _, _, _, _, _, _, _, _, _, _, _, _, _, _, _, _, _, _, _, _, _, _, _, _, _, _, _, _, _, _, _, _, _, _, _, _, _, _, _, _, _, _, _, _, _, _]) rfl ?_
    refine c_rseq (n := 49) ⟨rfl, rfl⟩ ?_
    obtain ⟨bh, off, pre, post, T, fz, rfl, hb, hp⟩ := hr (by omega)
    refine s_val (r_move rfl) ?_
    refine s_val (r_move rfl) ?_
    refine s_val (r_move rfl) ?_
    refine s_val (r_indexAddrS Try.runUnderlying35 Try.sizeOf41 rfl rfl (by omega) (by omega)) ?_
    refine s_val (r_loadn Try.isAgg41 Try.sizeOf41 rfl (H.rd0 hb) (hs_tdn _ _ _ _ h hp (by omega)) (by first | exact (kC_length _) | exact (hC_length _) | exact rfl)) ?_
    refine s_val (r_move rfl) ?_
    refine s_call (r_callv Try.call44 rfl (ec rfl (ec rfl en)) rfl) (find1_spec _ _ _) ?_
    rintro v w ⟨rfl, HC⟩
    replace H := H.quiet HC
    refine s_val (r_lss rfl rfl) ?_
    refine c_nil (l' := [_, _, _, _, _, _, _, _, _, _, _, _, _, _, _, _, _, _, _, _, _, _, _, _, _, _, _, _, _, _, _, _, _, _, _, _, _, _, _, _, _, _, _, _, _, _, _, _, _]) rfl ?_
    refine c_if rfl (fun h31 => ?_) (fun h31 => ?_)
    · skip
      have hcm := cmpI_neg.1 h31
      refine c_region (n := 49) ⟨rfl, rfl⟩ ?_
      refine s_val (r_move rfl) ?_
      refine s_val (r_add rfl rfl (w_i64 (by omega) (by omega))) ?_
      refine s_val (r_assign rfl) ?_
      refine c_nil0 (l' := [_, _, _, _, _, _, _, _, _, _, _, _, _, _, _, _, _, _, _, _, _, _, _, _, _, _, _, _, _, _, _, _, _, _, _, _, _, _, _, _, _, _, _, _, _, _, _, _, _]) rfl ?_
      refine x_blockNormal ?_
      exact ⟨(h + 1, j), _, rfl, ⟨_, _, _, _, _, _, _, _, _, _, _, _, _, _, _, _, _, _, _, _, _, rfl, (by dsimp only; omega), hj, (fun _ => hcm), hhi, H⟩, by dsimp only; omega⟩
    · skip
      have hcm := cmpI_nneg.1 h31
      refine c_region (n := 49) ⟨rfl, rfl⟩ ?_
      refine s_val (r_move rfl) ?_
      refine s_val (r_assign rfl) ?_
      refine c_nil0 (l' := [_, _, _, _, _, _, _, _, _, _, _, _, _, _, _, _, _, _, _, _, _, _, _, _, _, _, _, _, _, _, _, _, _, _, _, _, _, _, _, _, _, _, _, _, _, _, _, _, _]) rfl ?_
      refine x_blockNormal ?_
      exact ⟨(i, h), _, rfl, ⟨_, _, _, _, _, _, _, _, _, _, _, _, _, _, _, _, _, _, _, _, _, rfl, (by dsimp only; omega), (by dsimp only; omega), hlo, (fun _ => hcm), H⟩, by dsimp only; omega⟩
  · skip
    obtain rfl : i = j := by omega
    refine wp_exit (x_thenExit (x_thenExit (x_blockHit ?_)))
    refine x_thenNormal ?_
    refine c_rseq (n := 49) ⟨rfl, rfl⟩ ?_
    refine s_val (r_move rfl) ?_
    refine s_val (r_move rfl) ?_
    refine s_val (r_move rfl) ?_
    refine s_test (r_lss rfl rfl) (fun h38 => ?_) (fun h38 => ?_)
    · skip
      refine s_val (r_move rfl) ?_
      refine g_yes rfl rfl ?_
      obtain ⟨bh, off, pre, post, T, fz, rfl, hb, hp⟩ := hr (by omega)
      refine s_val (r_move rfl) ?_
      refine g_yes rfl rfl ?_
      refine s_val (r_move rfl) ?_
      refine g_yes rfl rfl ?_
      refine s_val (r_move rfl) ?_
      refine g_yes rfl rfl ?_
      refine s_val (r_indexAddrS Try.runUnderlying35 Try.sizeOf41 rfl rfl (by omega) (by omega)) ?_
      refine g_yes rfl rfl ?_
      refine s_val (r_loadn Try.isAgg41 Try.sizeOf41 rfl (H.rd0 hb) (hs_tdn _ _ _ _ i hp (by omega)) (by first | exact (kC_length _) | exact (hC_length _) | exact rfl)) ?_
      refine g_yes rfl rfl ?_
      refine s_val (r_move rfl) ?_
      refine g_yes rfl rfl ?_
      refine s_call (r_callv Try.call44 rfl (ec rfl (ec rfl en)) rfl) (find1_spec _ _ _) ?_
      rintro v w ⟨rfl, HC⟩
      replace H := H.quiet HC
      refine g_yes rfl rfl ?_
      refine s_val (r_eql rfl rfl) ?_
      refine s_val (r_pickt rfl rfl) ?_
      refine s_val (r_assign rfl) ?_
      refine s_val (r_assign rfl) ?_
      refine c_nil (l' := [_, _, _, _, _, _, _, _, _, _, _, _, _, _, _, _, _, _, _, _, _, _, _, _, _, _, _, _, _, _, _, _, _, _, _, _, _, _, _, _, _, _, _, _, _, _, _, _, _]) rfl ?_
      refine wp_ret ?_
      refine e_ret (res2 rfl rfl rfl) ⟨_, rfl, ?_⟩
      exact ⟨_, ⟨hj, hlo, hhi⟩, tup_dec (by rw [cmpI_zero]; exact ⟨fun h => ⟨by omega, h⟩, fun h => h.2⟩), H⟩
    · skip
      refine s_val (r_move rfl) ?_
      refine g_no rfl rfl (by decide) ?_
      refine g_no rfl rfl (by decide) ?_
      refine g_no rfl rfl (by decide) ?_
      refine g_no rfl rfl (by decide) ?_
      refine g_no rfl rfl (by decide) ?_
      refine g_no rfl rfl (by decide) ?_
      refine g_no rfl rfl (by decide) ?_
      refine g_no rfl rfl (by decide) ?_
      refine s_val (r_pickf rfl rfl) ?_
      refine s_val (r_assign rfl) ?_
      refine s_val (r_assign rfl) ?_
      refine c_nil (l' := [_, _, _, _, _, _, _, _, _, _, _, _, _, _, _, _, _, _, _, _, _, _, _, _, _, _, _, _, _, _, _, _, _, _, _, _, _, _, _, _, _, _, _, _, _, _, _, _, _]) rfl ?_
      refine wp_ret ?_
      refine e_ret (res2 rfl rfl rfl) ⟨_, rfl, ?_⟩
      exact ⟨_, ⟨hj, hlo, hhi⟩, tup_false (by omega), H⟩

set_option maxHeartbeats 4000000 in
theorem find_spec (bt : Nat) (ci : Value) (a : Option Addr) (cap : Nat) (Tt : TypeId) (fzt : Nat × Nat) (xs : List Held) (hl : xs.length ≤ 4611686018427387904) (hv : Valid xs) (n : Int) (hn0 : 0 ≤ n) (w0 : World) (hbt : w0.heap[bt]? = some (.cells [ci, .slice a xs.length cap].toArray Tt fzt)) (hr : HRow w0 a xs) :
    Calls Try.prog 28 #[.pointer (some ⟨bt, 0, none⟩), .int .u64 n] w0 fun e w => ∃ v, e = .returned v ∧ (∃ i ok, FindR xs n i ok ∧ v = .tuple #[.int .i64 (i : Nat), .bool ok] ∧ St w0 [] w []) := by
  have H := St.refl w0
  refine c_enter (args := [.pointer (some ⟨bt, 0, none⟩), .int .u64 n]) (l := [.pointer (some ⟨bt, 0, none⟩), .int .u64 n, undef, undef, undef, undef, undef, undef, undef, undef, undef, undef, undef, undef, undef, undef, undef, undef, undef, undef, undef, undef, undef, undef, undef, undef, undef, undef, undef, undef, undef, undef, undef, undef, undef, undef, undef, undef, undef, undef, undef, undef, undef, undef, undef, undef, undef, undef, undef, undef, undef, undef, undef, undef]) Try.func28 Try.ntmps28 rfl rfl ?_
  refine c_rseq (n := 54) ⟨rfl, rfl⟩ ?_
  refine s_val (r_assign rfl) ?_
  refine s_val (r_assign rfl) ?_
  refine c_nil (l' := [_, _, _, _, _, _, _, _, _, _, _, _, _, _, _, _, _, _, _, _, _, _, _, _, _, _, _, _, _, _, _, _, _, _, _, _, _, _, _, _, _, _, _, _, _, _, _, _, _, _, _, _, _, _]) rfl ?_
  refine c_seq ?_
  refine c_rseq (n := 54) ⟨rfl, rfl⟩ ?_
  refine s_val (r_move rfl) ?_
  refine s_val (r_nilpF Try.runUnderlying26 rfl rfl) ?_
  refine s_val (r_move rfl) ?_
  refine g_yes rfl rfl ?_
  refine s_val (r_move rfl) ?_
  refine g_yes rfl rfl ?_
  refine s_call (r_call Try.call37 (ec rfl en)) (many_spec _ (by omega) (by omega) _) ?_
  rintro v w ⟨rfl, HC⟩
  replace H := H.quiet HC
  refine g_yes rfl rfl ?_
  refine s_val (r_geq rfl rfl) ?_
  refine s_val (r_pickf rfl rfl) ?_
  refine c_nil (l' := [_, _, _, _, _, _, _, _, _, _, _, _, _, _, _, _, _, _, _, _, _, _, _, _, _, _, _, _, _, _, _, _, _, _, _, _, _, _, _, _, _, _, _, _, _, _, _, _, _, _, _, _, _, _]) rfl ?_
  refine c_if rfl (fun h14 => ?_) (fun h14 => ?_)
  · skip
    refine c_rseq (n := 54) ⟨rfl, rfl⟩ ?_
    refine s_val (r_assign rfl) ?_
    refine s_val (r_assign rfl) ?_
    refine c_nil (l' := [_, _, _, _, _, _, _, _, _, _, _, _, _, _, _, _, _, _, _, _, _, _, _, _, _, _, _, _, _, _, _, _, _, _, _, _, _, _, _, _, _, _, _, _, _, _, _, _, _, _, _, _, _, _]) rfl ?_
    refine wp_ret (x_thenRet ?_)
    refine e_ret (res2 rfl rfl rfl) ⟨_, rfl, ?_⟩
    exact ⟨0, false, find_none_big hv (by have := many_zero; omega), rfl, H⟩
  · skip
    have hn1 : n < 131072 := by have := many_zero; omega
    refine wp_skip ?_
    refine x_thenNormal ?_
    refine c_rseq (n := 54) ⟨rfl, rfl⟩ ?_
    refine s_val (r_move rfl) ?_
    refine s_val (r_nilCheck rfl) ?_
    refine s_val (r_fieldAddr (k := 1) Try.runUnderlying68 rfl Try.sizeOf35 (by decide) rfl rfl) ?_
    refine s_val (r_load1 Try.isAgg35 rfl (H.rd0 hbt) rfl) ?_
    refine s_val (r_move rfl) ?_
    refine s_call (r_call Try.call43 (ec rfl (ec rfl (ec rfl en)))) (bs_spec _ _ _ _ (by omega) _ (hr.st H)) ?_
    rintro v w ⟨i, hbs, rfl, HC⟩
    replace H := H.quiet HC
    refine s_val (r_move rfl) ?_
    refine s_val (r_extract rfl rfl) ?_
    refine s_val (r_extract rfl rfl) ?_
    refine s_val (r_assign rfl) ?_
    refine s_val (r_assign rfl) ?_
    refine c_nil (l' := [_, _, _, _, _, _, _, _, _, _, _, _, _, _, _, _, _, _, _, _, _, _, _, _, _, _, _, _, _, _, _, _, _, _, _, _, _, _, _, _, _, _, _, _, _, _, _, _, _, _, _, _, _, _]) rfl ?_
    refine c_seq ?_
    refine c_rseq (n := 54) ⟨rfl, rfl⟩ ?_
    refine s_val (r_move rfl) ?_
    refine c_nil (l' := [_, _, _, _, _, _, _, _, _, _, _, _, _, _, _, _, _, _, _, _, _, _, _, _, _, _, _, _, _, _, _, _, _, _, _, _, _, _, _, _, _, _, _, _, _, _, _, _, _, _, _, _, _, _]) rfl ?_
    refine c_if rfl (fun h24 => ?_) (fun h24 => ?_)
    · skip
      refine c_rseq (n := 54) ⟨rfl, rfl⟩ ?_
      refine s_val (r_move rfl) ?_
      refine s_val (r_assign rfl) ?_
      refine s_val (r_assign rfl) ?_
      refine c_nil (l' := [_, _, _, _, _, _, _, _, _, _, _, _, _, _, _, _, _, _, _, _, _, _, _, _, _, _, _, _, _, _, _, _, _, _, _, _, _, _, _, _, _, _, _, _, _, _, _, _, _, _, _, _, _, _]) rfl ?_
      refine wp_ret (x_thenRet ?_)
      refine e_ret (res2 rfl rfl rfl) ⟨_, rfl, ?_⟩
      exact ⟨i, true, find_hit h24.1 h24.2, rfl, H⟩
    · skip
      refine wp_skip ?_
      refine x_thenNormal ?_
      refine c_seq ?_
      refine c_seq ?_
      refine d_begin (sz := 54) ⟨rfl, rfl⟩ (by kernel_rfl) H (H) rfl ?_
      intro w H
      refine d_take (i := 0) rfl (by kernel_rfl) (fun _ _ _ h => h) H (fun _ _ => r_move rfl) rfl ?_
      refine d_take (i := 1) rfl (by kernel_rfl) (fun _ _ _ h => h) H (fun _ _ => r_eql rfl rfl) rfl ?_
      refine d_part (fun h27 => ?_) (fun h27 => ?_)
      · skip
        refine d_take (i := 2) rfl (by kernel_rfl) (fun _ _ _ h => h) H (fun _ _ => r_move rfl) rfl ?_
        refine d_takeN (i := 3) rfl (by kernel_rfl) (fun _ _ _ h => h) rfl rfl (by decide) H rfl ?_
        refine d_takeN (i := 4) rfl (by kernel_rfl) (fun _ _ _ h => h) rfl rfl (by decide) H rfl ?_
        refine d_takeN (i := 5) rfl (by kernel_rfl) (fun _ _ _ h => h) rfl rfl (by decide) H rfl ?_
        refine d_takeN (i := 6) rfl (by kernel_rfl) (fun _ _ _ h => h) rfl rfl (by decide) H rfl ?_
        refine d_takeN (i := 7) rfl (by kernel_rfl) (fun _ _ _ h => h) rfl rfl (by decide) H rfl ?_
        refine d_takeN (i := 8) rfl (by kernel_rfl) (fun _ _ _ h => h) rfl rfl (by decide) H rfl ?_
        refine d_takeN (i := 9) rfl (by kernel_rfl) (fun _ _ _ h => h) rfl rfl (by decide) H rfl ?_
        refine d_takeN (i := 10) rfl (by kernel_rfl) (fun _ _ _ h => h) rfl rfl (by decide) H rfl ?_
        refine d_takeN (i := 11) rfl (by kernel_rfl) (fun _ _ _ h => h) rfl rfl (by decide) H rfl ?_
        refine d_takeN (i := 12) rfl (by kernel_rfl) (fun _ _ _ h => h) rfl rfl (by decide) H rfl ?_
        refine d_takeN (i := 13) rfl (by kernel_rfl) (fun _ _ _ h => h) rfl rfl (by decide) H rfl ?_
        refine d_takeN (i := 14) rfl (by kernel_rfl) (fun _ _ _ h => h) rfl rfl (by decide) H rfl ?_
        refine d_takeN (i := 15) rfl (by kernel_rfl) (fun _ _ _ h => h) rfl rfl (by decide) H rfl ?_
        refine d_takeN (i := 16) rfl (by kernel_rfl) (fun _ _ _ h => h) rfl rfl (by decide) H rfl ?_
        refine d_takeN (i := 17) rfl (by kernel_rfl) (fun _ _ _ h => h) rfl rfl (by decide) H rfl ?_
        refine d_takeN (i := 18) rfl (by kernel_rfl) (fun _ _ _ h => h) rfl rfl (by decide) H rfl ?_
        refine d_takeN (i := 19) rfl (by kernel_rfl) (fun _ _ _ h => h) rfl rfl (by decide) H rfl ?_
        refine d_takeN (i := 20) rfl (by kernel_rfl) (fun _ _ _ h => h) rfl rfl (by decide) H rfl ?_
        refine d_takeN (i := 21) rfl (by kernel_rfl) (fun _ _ _ h => h) rfl rfl (by decide) H rfl ?_
        refine d_takeN (i := 22) rfl (by kernel_rfl) (fun _ _ _ h => h) rfl rfl (by decide) H rfl ?_
        refine d_takeN (i := 23) rfl (by kernel_rfl) (fun _ _ _ h => h) rfl rfl (by decide) H rfl ?_
        refine d_takeN (i := 24) rfl (by kernel_rfl) (fun _ _ _ h => h) rfl rfl (by decide) H rfl ?_
        refine d_take (i := 25) rfl (by kernel_rfl) (fun _ _ _ h => h) H (fun _ _ => r_pickt rfl rfl) rfl ?_
        refine d_done (l' := [_, _, _, _, _, _, _, _, _, _, _, _, _, _, _, _, _, _, _, _, _, _, _, _, _, _, _, _, _, _, _, _, _, _, _, _, _, _, _, _, _, _, _, _, _, _, _, _, _, _, _, _, _, _]) (by kernel_rfl) rfl ?_
        refine x_thenNormal ?_
        refine c_ift rfl ?_
        refine c_rseq (n := 54) ⟨rfl, rfl⟩ ?_
        refine s_val (r_assign rfl) ?_
        refine s_val (r_assign rfl) ?_
        refine c_nil (l' := [_, _, _, _, _, _, _, _, _, _, _, _, _, _, _, _, _, _, _, _, _, _, _, _, _, _, _, _, _, _, _, _, _, _, _, _, _, _, _, _, _, _, _, _, _, _, _, _, _, _, _, _, _, _]) rfl ?_
        refine wp_ret (x_thenRet ?_)
        refine e_ret (res2 rfl rfl rfl) ⟨_, rfl, ?_⟩
        obtain rfl : i = 0 := by omega
        exact ⟨0, false, find_none_first hv hbs (fun h he => h24 ⟨h, he⟩), rfl, H⟩
      · skip
        obtain ⟨m, rfl⟩ : ∃ m, i = m + 1 := ⟨i - 1, by omega⟩
        have hm := hbs.1
        obtain ⟨bh, off, pre, post, T, fz, rfl, hb, hp⟩ := hr (by omega)
        have hlt := hbs.2.1 (by omega)
        simp only [Nat.add_sub_cancel] at hlt
        obtain ⟨hd0, hd1, ha0, _, ha1⟩ := hv.get (i := m) (by omega)
        refine d_take (i := 2) rfl (by kernel_rfl) (fun _ _ _ h => h) H (fun _ _ => r_move rfl) rfl ?_
        refine d_takeG (i := 3) rfl (by kernel_rfl) (fun _ _ _ h => h) rfl rfl H (fun _ _ => r_move rfl) rfl ?_
        refine d_takeG (i := 4) rfl (by kernel_rfl) (fun _ _ _ h => h) rfl rfl H (fun _ _ => r_move rfl) rfl ?_
        refine d_takeG (i := 5) rfl (by kernel_rfl) (fun _ _ _ h => h) rfl rfl H (fun _ _ => r_nilCheck rfl) rfl ?_
        refine d_takeG (i := 6) rfl (by kernel_rfl) (fun _ _ _ h => h) rfl rfl H (fun _ _ => r_fieldAddr (k := 1) Try.runUnderlying68 rfl Try.sizeOf35 (by decide) rfl rfl) rfl ?_
        refine d_takeG (i := 7) rfl (by kernel_rfl) (fun _ _ _ h => h) rfl rfl H (fun _ HS => r_load1 Try.isAgg35 rfl (HS.rd0 hbt) rfl) rfl ?_
        refine d_takeG (i := 8) rfl (by kernel_rfl) (fun _ _ _ h => h) rfl rfl H (fun _ _ => r_move rfl) rfl ?_
        refine d_takeG (i := 9) rfl (by kernel_rfl) (fun _ _ _ h => h) rfl rfl H (fun _ _ => r_sub (r := (m : Int)) rfl rfl (w_i64e (by omega) (by omega) (by omega))) rfl ?_
        refine d_takeG (i := 10) rfl (by kernel_rfl) (fun _ _ _ h => h) rfl rfl H (fun _ _ => r_indexAddrS Try.runUnderlying35 Try.sizeOf41 rfl rfl (by omega) (by omega)) rfl ?_
        refine d_takeG (i := 11) rfl (by kernel_rfl) (fun _ _ _ h => h) rfl rfl H (fun _ _ => r_fieldAddr (k := 1) Try.runUnderlying41 rfl Try.sizeOf31 (by decide) rfl rfl) rfl ?_
        refine d_takeG (i := 12) rfl (by kernel_rfl) (fun _ _ _ h => h) rfl rfl H (fun _ HS => r_load1 Try.isAgg31 rfl (HS.rd0 hb) (hs_at _ _ _ _ m hp (by omega))) rfl ?_
        refine d_takeG (i := 13) rfl (by kernel_rfl) (fun _ _ _ h => h) rfl rfl H (fun _ _ => r_sub rfl rfl (w_u64 (by omega) (by omega))) rfl ?_
        refine d_takeG (i := 14) rfl (by kernel_rfl) (fun _ _ _ h => h) rfl rfl H (fun _ _ => r_move rfl) rfl ?_
        refine d_takeG (i := 15) rfl (by kernel_rfl) (fun _ _ _ h => h) rfl rfl H (fun _ _ => r_nilCheck rfl) rfl ?_
        refine d_takeG (i := 16) rfl (by kernel_rfl) (fun _ _ _ h => h) rfl rfl H (fun _ _ => r_fieldAddr (k := 1) Try.runUnderlying68 rfl Try.sizeOf35 (by decide) rfl rfl) rfl ?_
        refine d_takeG (i := 17) rfl (by kernel_rfl) (fun _ _ _ h => h) rfl rfl H (fun _ HS => r_load1 Try.isAgg35 rfl (HS.rd0 hbt) rfl) rfl ?_
        refine d_takeG (i := 18) rfl (by kernel_rfl) (fun _ _ _ h => h) rfl rfl H (fun _ _ => r_move rfl) rfl ?_
        refine d_takeG (i := 19) rfl (by kernel_rfl) (fun _ _ _ h => h) rfl rfl H (fun _ _ => r_sub (r := (m : Int)) rfl rfl (w_i64e (by omega) (by omega) (by omega))) rfl ?_
        refine d_takeG (i := 20) rfl (by kernel_rfl) (fun _ _ _ h => h) rfl rfl H (fun _ _ => r_indexAddrS Try.runUnderlying35 Try.sizeOf41 rfl rfl (by omega) (by omega)) rfl ?_
        refine d_takeG (i := 21) rfl (by kernel_rfl) (fun _ _ _ h => h) rfl rfl H (fun _ _ => r_fieldAddr (k := 0) Try.runUnderlying41 rfl Try.sizeOf3 (by decide) rfl rfl) rfl ?_
        refine d_takeG (i := 22) rfl (by kernel_rfl) (fun _ _ _ h => h) rfl rfl H (fun _ HS => r_load1 Try.isAgg3 rfl (HS.rd0 hb) (hs_depth _ _ _ _ m hp (by omega))) rfl ?_
        refine d_all1 (i := 23) (by kernel_rfl) ?_
        refine b_call rfl (go_some rfl rfl) (r_call Try.call37 (ec rfl en)) (many_spec _ (by omega) (by omega) _) rfl ?_
        rintro v w ⟨rfl, HC⟩
        replace H := H.quiet HC
        refine ⟨H, ?_⟩
        refine d_takeG (i := 24) rfl (by kernel_rfl) (fun _ _ _ h => h) rfl rfl H (fun _ _ => r_geq rfl rfl) rfl ?_
        refine d_take (i := 25) rfl (by kernel_rfl) (fun _ _ _ h => h) H (fun _ _ => r_pickf rfl rfl) rfl ?_
        refine d_done (l' := [_, _, _, _, _, _, _, _, _, _, _, _, _, _, _, _, _, _, _, _, _, _, _, _, _, _, _, _, _, _, _, _, _, _, _, _, _, _, _, _, _, _, _, _, _, _, _, _, _, _, _, _, _, _]) (by kernel_rfl) rfl ?_
        refine x_thenNormal ?_
        refine c_if rfl (fun h51 => ?_) (fun h51 => ?_)
        · skip
          refine c_rseq (n := 54) ⟨rfl, rfl⟩ ?_
          refine s_val (r_assign rfl) ?_
          refine s_val (r_assign rfl) ?_
          refine c_nil (l' := [_, _, _, _, _, _, _, _, _, _, _, _, _, _, _, _, _, _, _, _, _, _, _, _, _, _, _, _, _, _, _, _, _, _, _, _, _, _, _, _, _, _, _, _, _, _, _, _, _, _, _, _, _, _]) rfl ?_
          refine wp_ret (x_thenRet ?_)
          refine e_ret (res2 rfl rfl rfl) ⟨_, rfl, ?_⟩
          exact ⟨0, false, find_none_gap hv hbs (fun h he => h24 ⟨h, he⟩) h51, rfl, H⟩
        · skip
          refine wp_skip ?_
          refine x_thenNormal ?_
          refine c_rseq (n := 54) ⟨rfl, rfl⟩ ?_
          refine s_val (r_move rfl) ?_
          refine s_val (r_sub (r := (m : Int)) rfl rfl (w_i64e (by omega) (by omega) (by omega))) ?_
          refine s_val (r_assign rfl) ?_
          refine s_val (r_assign rfl) ?_
          refine c_nil (l' := [_, _, _, _, _, _, _, _, _, _, _, _, _, _, _, _, _, _, _, _, _, _, _, _, _, _, _, _, _, _, _, _, _, _, _, _, _, _, _, _, _, _, _, _, _, _, _, _, _, _, _, _, _, _]) rfl ?_
          refine wp_ret ?_
          refine e_ret (res2 rfl rfl rfl) ⟨_, rfl, ?_⟩
          exact ⟨m, true, find_in hbs h51, rfl, H⟩

set_option maxHeartbeats 4000000 in
theorem rsplit_spec (k : Key) (w0 : World) :
    Calls Try.prog 39 #[.agg (kC k).toArray] w0 fun e w => ∃ v, e = .returned v ∧ (v = .tuple #[.agg (kC (splitL k)).toArray, .agg (kC (splitR k)).toArray] ∧ St w0 [] w []) := by
  have H := St.refl w0
  refine c_enter (args := [.agg (kC k).toArray]) (l := [.agg (kC k).toArray, undef, undef, undef, undef, undef, undef, undef, undef, undef, undef, undef, undef, undef, undef, undef, undef, undef, undef, undef, undef, undef, undef, undef, undef, undef, undef, undef, undef, undef, undef, undef, undef, undef, undef, undef]) Try.func39 Try.ntmps39 rfl rfl ?_
  refine c_rseq (n := 36) ⟨rfl, rfl⟩ ?_
  refine s_new (m_box H rfl rfl) ?_
  intro w b1 H
  refine s_new (m_alloc (cs := (kC (By.zero 32))) H Try.zeroValue22 rfl) ?_
  intro w b2 H
  refine s_new (m_alloc (cs := (kC (By.zero 32))) H Try.zeroValue22 rfl) ?_
  intro w b3 H
  refine c_nil (l' := [_, _, _, _, _, _, _, _, _, _, _, _, _, _, _, _, _, _, _, _, _, _, _, _, _, _, _, _, _, _, _, _, _, _, _, _]) rfl ?_
  refine c_cut (fun (l0 : List Value) (l : List Value) (w : World) => ∃ (u7 u8 : Value) (b4 b5 : Nat), l = ovr l0 [N_, N_, N_, N_, Y_ (.pointer (some ⟨b4, 0, none⟩)), Y_ (.pointer (some ⟨b5, 0, none⟩)), N_, Y_ u7, Y_ u8] ∧ St w0 [] w [(b5, .cells (kC k).toArray 22 (0, 0)), (b4, .cells (kC k).toArray 22 (0, 0)), (b3, .cells (kC (By.zero 32)).toArray 22 (0, 0)), (b2, .cells (kC (By.zero 32)).toArray 22 (0, 0)), (b1, .cells (kC k).toArray 22 (0, 0))]) ?_ ?_
  · skip
    refine d_begin (sz := 36) ⟨rfl, rfl⟩ (by kernel_rfl) H (H) rfl ?_
    intro w H
    refine d_take (i := 0) rfl (by kernel_rfl) (fun _ _ _ h => h) H (fun _ HS => r_loadn Try.isAgg22 Try.sizeOf22 rfl (HS.at 2 rfl) (by first | exact (kC_td _) | exact (hC_td _) | exact (hC_seed _)) (by first | exact (kC_length _) | exact (hC_length _) | exact rfl)) rfl ?_
    refine d_take (i := 1) rfl (by kernel_rfl) (fun _ _ _ h => h) H (fun _ HS => r_loadn Try.isAgg22 Try.sizeOf22 rfl (HS.at 2 rfl) (by first | exact (kC_td _) | exact (hC_td _) | exact (hC_seed _)) (by first | exact (kC_length _) | exact (hC_length _) | exact rfl)) rfl ?_
    refine d_all2 (i := 2) (j := 3) (by kernel_rfl) ?_ ?_
    · skip
      refine b_new rfl go_none (m_alloc (cs := (kC (By.zero 32))) H Try.zeroValue22 rfl) rfl (fun _ _ H => (H.sub (.cons _ (.cons_cons _ (.cons_cons _ (.cons_cons _ .slnil)))))) ?_
      intro w b4 H
      refine d_all1 (i := 3) (by kernel_rfl) ?_
      refine b_new rfl go_none (m_alloc (cs := (kC (By.zero 32))) H Try.zeroValue22 rfl) rfl (fun _ _ H => (H.sub (.cons _ (.cons _ (.cons_cons _ (.cons_cons _ (.cons_cons _ .slnil))))))) ?_
      intro w b5 H
      refine d_all1 (i := 4) (by kernel_rfl) ?_
      refine b_st rfl go_none (m_storen H 1 32 Try.sizeOf22 rfl rfl (by first | exact (kC_length _) | exact (hC_length _)) (by first | exact (kC_one _) | exact (hC_one _)) rfl (by first | exact (by rw [kC_length]; omega) | exact (by rw [hC_length]; omega)) (by first | exact (kC_sp _ _) | exact (hC_sp _ _))) (L' := [_, _, _, _, _]) rfl rfl (fun _ H => (H.sub (.cons _ (.cons _ (.cons_cons _ (.cons_cons _ (.cons_cons _ .slnil))))))) ?_
      intro w H
      refine d_all1 (i := 5) (by kernel_rfl) ?_
      refine b_st rfl go_none (m_storen H 0 32 Try.sizeOf22 rfl rfl (by first | exact (kC_length _) | exact (hC_length _)) (by first | exact (kC_one _) | exact (hC_one _)) rfl (by first | exact (by rw [kC_length]; omega) | exact (by rw [hC_length]; omega)) (by first | exact (kC_sp _ _) | exact (hC_sp _ _))) (L' := [_, _, _, _, _]) rfl rfl (fun _ H => (H.sub (.cons _ (.cons _ (.cons_cons _ (.cons_cons _ (.cons_cons _ .slnil))))))) ?_
      intro w H
      refine d_done (l' := [_, _, _, _, _, _, _, _, _, _, _, _, _, _, _, _, _, _, _, _, _, _, _, _, _, _, _, _, _, _, _, _, _, _, _, _]) (by kernel_rfl) rfl ?_
      exact ⟨_, rfl, ⟨_, _, _, _, rfl, H⟩⟩
    · skip
      refine b_new rfl go_none (m_alloc (cs := (kC (By.zero 32))) H Try.zeroValue22 rfl) rfl (fun _ _ H => (H.sub (.cons _ (.cons_cons _ (.cons_cons _ (.cons_cons _ .slnil)))))) ?_
      intro w b5 H
      refine d_all1 (i := 2) (by kernel_rfl) ?_
      refine b_new rfl go_none (m_alloc (cs := (kC (By.zero 32))) H Try.zeroValue22 rfl) rfl (fun _ _ H => (H.sub (.cons _ (.cons _ (.cons_cons _ (.cons_cons _ (.cons_cons _ .slnil))))))) ?_
      intro w b4 H
      refine d_all1 (i := 4) (by kernel_rfl) ?_
      refine b_st rfl go_none (m_storen H 0 32 Try.sizeOf22 rfl rfl (by first | exact (kC_length _) | exact (hC_length _)) (by first | exact (kC_one _) | exact (hC_one _)) rfl (by first | exact (by rw [kC_length]; omega) | exact (by rw [hC_length]; omega)) (by first | exact (kC_sp _ _) | exact (hC_sp _ _))) (L' := [_, _, _, _, _]) rfl rfl (fun _ H => (H.sub (.cons _ (.cons _ (.cons_cons _ (.cons_cons _ (.cons_cons _ .slnil))))))) ?_
      intro w H
      refine d_all1 (i := 5) (by kernel_rfl) ?_
      refine b_st rfl go_none (m_storen H 1 32 Try.sizeOf22 rfl rfl (by first | exact (kC_length _) | exact (hC_length _)) (by first | exact (kC_one _) | exact (hC_one _)) rfl (by first | exact (by rw [kC_length]; omega) | exact (by rw [hC_length]; omega)) (by first | exact (kC_sp _ _) | exact (hC_sp _ _))) (L' := [_, _, _, _, _]) rfl rfl (fun _ H => (H.sub (.cons _ (.cons _ (.cons_cons _ (.cons_cons _ (.cons_cons _ .slnil))))))) ?_
      intro w H
      refine d_done (l' := [_, _, _, _, _, _, _, _, _, _, _, _, _, _, _, _, _, _, _, _, _, _, _, _, _, _, _, _, _, _, _, _, _, _, _, _]) (by kernel_rfl) rfl ?_
      replace H := H.swp 0 (L' := [_, _, _, _, _]) rfl
      exact ⟨_, rfl, ⟨_, _, _, _, rfl, H⟩⟩
  · skip
    rintro l w ⟨u7, u8, b4, b5, hl, H⟩
    obtain rfl := hl.trans (rfl : _ = [_, _, _, _, _, _, _, _, _, _, _, _, _, _, _, _, _, _, _, _, _, _, _, _, _, _, _, _, _, _, _, _, _, _, _, _])
    clear hl
    refine c_seq ?_
    refine c_rseq (n := 36) ⟨rfl, rfl⟩ ?_
    refine s_val (r_assign rfl) ?_
    refine c_nil (l' := [_, _, _, _, _, _, _, _, _, _, _, _, _, _, _, _, _, _, _, _, _, _, _, _, _, _, _, _, _, _, _, _, _, _, _, _]) rfl ?_
    refine wp_block ?_
    refine c_loop (fun (l0 : List Value) (i : Nat) (l : List Value) (w : World) => ∃ (u9 u10 u11 u12 u13 u14 u15 u16 u17 u18 u19 u20 u21 u22 u23 u24 u25 u26 u27 u28 u29 u30 u31 u32 u33 : Value) , l = ovr l0 [N_, N_, N_, N_, N_, N_, Y_ (.int .i64 i), N_, N_, Y_ u9, Y_ u10, Y_ u11, Y_ u12, Y_ u13, Y_ u14, Y_ u15, Y_ u16, Y_ u17, Y_ u18, Y_ u19, Y_ u20, Y_ u21, Y_ u22, Y_ u23, Y_ u24, Y_ u25, Y_ u26, Y_ u27, Y_ u28, Y_ u29, Y_ u30, Y_ u31, Y_ u32, Y_ u33] ∧ i ≤ 32 ∧ St w0 [] w [(b5, .cells (bC (mix (splitR k).1 k.1 i)).toArray 22 (0, 0)), (b4, .cells (bC (mix (splitL k).1 k.1 i)).toArray 22 (0, 0)), (b3, .cells (kC (By.zero 32)).toArray 22 (0, 0)), (b2, .cells (kC (By.zero 32)).toArray 22 (0, 0)), (b1, .cells (kC k).toArray 22 (0, 0))]) (fun (i : Nat) => 32 - i) 0 ⟨_, _, _, _, _, _, _, _, _, _, _, _, _, _, _, _, _, _, _, _, _, _, _, _, _, rfl, by omega, (by rw [mix_zero, mix_zero]; exact H)⟩ ?_
    intro i l w ⟨u9, u10, u11, u12, u13, u14, u15, u16, u17, u18, u19, u20, u21, u22, u23, u24, u25, u26, u27, u28, u29, u30, u31, u32, u33, hl, hi, H⟩
    obtain rfl := hl.trans (rfl : _ = [_, _, _, _, _, _, _, _, _, _, _, _, _, _, _, _, _, _, _, _, _, _, _, _, _, _, _, _, _, _, _, _, _, _, _, _])
    clear hl
    refine c_seq ?_
    refine c_rseq (n := 36) ⟨rfl, rfl⟩ ?_
    refine s_val (r_move rfl) ?_
    refine s_val (r_lss rfl rfl) ?_
    refine c_nil (l' := [_, _, _, _, _, _, _, _, _, _, _, _, _, _, _, _, _, _, _, _, _, _, _, _, _, _, _, _, _, _, _, _, _, _, _, _]) rfl ?_
    refine c_if rfl (fun h10 => ?_) (fun h10 => ?_)
    · skip
      refine wp_skip ?_
      refine x_thenNormal ?_
      refine c_seq ?_
      refine wp_block ?_
      refine c_rseq (n := 36) ⟨rfl, rfl⟩ ?_
      refine s_val (r_move rfl) ?_
      refine s_val (r_move rfl) ?_
      refine s_val (r_indexAddrA Try.runUnderlying22 Try.sizeOf5 rfl rfl (by omega) (by omega)) ?_
      refine s_val (r_load1 Try.isAgg5 rfl (H.at 4 rfl) (kC_byt k i (by omega) (by omega))) ?_
      refine s_val (r_mul rfl rfl (w_u8' _)) ?_
      refine s_val (r_move rfl) ?_
      refine s_val (r_conv Try.runUnderlying3 Try.runUnderlying5 rfl (w_u8' _)) ?_
      refine s_val (r_add rfl rfl (w_u8' _)) ?_
      refine s_val (r_add rfl rfl (w_u8' _)) ?_
      refine s_val (r_indexAddrA Try.runUnderlying22 Try.sizeOf5 rfl rfl (by omega) (by omega)) ?_
      refine s_st (m_store1 H 1 Try.sizeOf5 rfl rfl rfl rfl (by rw [bC_length, mix_length _ _ (by rw [(splitL k).2, k.2]), k.2]; omega) (mix_set _ _ i (by rw [(splitL k).2, k.2]) (by rw [k.2]; omega) (by omega) (splitL_byt k (by omega)))) (L' := [_, _, _, _, _]) rfl ?_
      intro w H
      refine c_nil (l' := [_, _, _, _, _, _, _, _, _, _, _, _, _, _, _, _, _, _, _, _, _, _, _, _, _, _, _, _, _, _, _, _, _, _, _, _]) rfl ?_
      refine c_region (n := 36) ⟨rfl, rfl⟩ ?_
      refine s_val (r_move rfl) ?_
      refine s_val (r_move rfl) ?_
      refine s_val (r_indexAddrA Try.runUnderlying22 Try.sizeOf5 rfl rfl (by omega) (by omega)) ?_
      refine s_val (r_load1 Try.isAgg5 rfl (H.at 4 rfl) (kC_byt k i (by omega) (by omega))) ?_
      refine s_val (r_mul rfl rfl (w_u8' _)) ?_
      refine s_val (r_move rfl) ?_
      refine s_val (r_mul rfl rfl (w_i64 (by omega) (by omega))) ?_
      refine s_val (r_conv Try.runUnderlying3 Try.runUnderlying5 rfl (w_u8' _)) ?_
      refine s_val (r_add rfl rfl (w_u8' _)) ?_
      refine s_val (r_add rfl rfl (w_u8' _)) ?_
      refine s_val (r_indexAddrA Try.runUnderlying22 Try.sizeOf5 rfl rfl (by omega) (by omega)) ?_
      refine s_st (m_store1 H 0 Try.sizeOf5 rfl rfl rfl rfl (by rw [bC_length, mix_length _ _ (by rw [(splitR k).2, k.2]), k.2]; omega) (mix_set _ _ i (by rw [(splitR k).2, k.2]) (by rw [k.2]; omega) (by omega) (splitR_byt k (by omega)))) (L' := [_, _, _, _, _]) rfl ?_
      intro w H
      refine c_nil0 (l' := [_, _, _, _, _, _, _, _, _, _, _, _, _, _, _, _, _, _, _, _, _, _, _, _, _, _, _, _, _, _, _, _, _, _, _, _]) rfl ?_
      refine x_blockNormal ?_
      refine x_thenNormal ?_
      refine c_region (n := 36) ⟨rfl, rfl⟩ ?_
      refine s_val (r_move rfl) ?_
      refine s_val (r_add rfl rfl (w_i64 (by omega) (by omega))) ?_
      refine s_val (r_assign rfl) ?_
      refine c_nil0 (l' := [_, _, _, _, _, _, _, _, _, _, _, _, _, _, _, _, _, _, _, _, _, _, _, _, _, _, _, _, _, _, _, _, _, _, _, _]) rfl ?_
      exact ⟨i + 1, _, rfl, ⟨_, _, _, _, _, _, _, _, _, _, _, _, _, _, _, _, _, _, _, _, _, _, _, _, _, rfl, by omega, H⟩, by omega⟩
    · skip
      obtain rfl : i = 32 := by omega
      rw [mix_all _ _ (splitL k).2 k.2, mix_all _ _ (splitR k).2 k.2] at H
      have hq4 : (bC (splitL k).1).length = 32 := kC_length _
      have hq5 : (bC (splitR k).1).length = 32 := kC_length _
      refine wp_exit (x_thenExit (x_thenExit (x_blockHit ?_)))
      refine x_thenNormal ?_
      refine c_seq ?_
      refine d_begin (sz := 36) ⟨rfl, rfl⟩ (by kernel_rfl) H (H.sub (.cons_cons _ (.cons_cons _ (.cons _ (.cons _ (.cons_cons _ .slnil)))))) rfl ?_
      intro w H
      refine d_take (i := 0) rfl (by kernel_rfl) (fun _ _ _ h => h) (H.sub (.cons_cons _ (.cons_cons _ (.cons _ (.cons _ (.cons_cons _ .slnil)))))) (fun _ HS => r_loadn Try.isAgg22 Try.sizeOf22 rfl (HS.at 1 rfl) (all_td 32 hq4) hq4) rfl ?_
      refine d_take (i := 1) rfl (by kernel_rfl) (fun _ _ _ h => h) (H.sub (.cons_cons _ (.cons_cons _ (.cons _ (.cons _ (.cons_cons _ .slnil)))))) (fun _ HS => r_loadn Try.isAgg22 Try.sizeOf22 rfl (HS.at 0 rfl) (all_td 32 hq5) hq5) rfl ?_
      refine d_all1 (i := 2) (by kernel_rfl) ?_
      refine b_st rfl go_none (m_storen H 3 32 Try.sizeOf22 rfl rfl (by first | exact (kC_length _) | exact (hC_length _)) (by first | exact (kC_one _) | exact (hC_one _)) rfl (by first | exact (by rw [kC_length]; omega) | exact (by rw [hC_length]; omega)) (by first | exact (kC_sp _ _) | exact (hC_sp _ _))) (L' := [_, _, _, _, _]) rfl rfl (fun _ H => (H.sub (.cons_cons _ (.cons_cons _ (.cons _ (.cons _ (.cons_cons _ .slnil))))))) ?_
      intro w H
      refine d_all1 (i := 3) (by kernel_rfl) ?_
      refine b_st rfl go_none (m_storen H 2 32 Try.sizeOf22 rfl rfl (by first | exact (kC_length _) | exact (hC_length _)) (by first | exact (kC_one _) | exact (hC_one _)) rfl (by first | exact (by rw [kC_length]; omega) | exact (by rw [hC_length]; omega)) (by first | exact (kC_sp _ _) | exact (hC_sp _ _))) (L' := [_, _, _, _, _]) rfl rfl (fun _ H => (H.sub (.cons_cons _ (.cons_cons _ (.cons _ (.cons _ (.cons_cons _ .slnil))))))) ?_
      intro w H
      refine d_done (l' := [_, _, _, _, _, _, _, _, _, _, _, _, _, _, _, _, _, _, _, _, _, _, _, _, _, _, _, _, _, _, _, _, _, _, _, _]) (by kernel_rfl) rfl ?_
      refine x_thenNormal ?_
      refine wp_ret ?_
      refine e_ret (rc_two rfl (rc_celln Try.isAgg22 Try.sizeOf22 rfl (H.at 3 rfl) (kC_td _) (kC_length _)) (rc_celln Try.isAgg22 Try.sizeOf22 rfl (H.at 2 rfl) (kC_td _) (kC_length _))) ⟨_, rfl, ?_⟩
      exact ⟨rfl, H.sub (.cons _ (.cons _ (.cons _ (.cons _ (.cons _ .slnil)))))⟩

set_option maxHeartbeats 4000000 in
theorem lsplit_spec (k : Key) (w0 : World) :
    Calls Try.prog 20 #[.agg #[], .agg (kC k).toArray] w0 fun e w => ∃ v, e = .returned v ∧ (v = .tuple #[.agg (kC (splitL k)).toArray, .agg (kC (splitR k)).toArray] ∧ St w0 [] w []) := by
  have H := St.refl w0
  refine c_enter (args := [.agg #[], .agg (kC k).toArray]) (l := [.agg #[], .agg (kC k).toArray, undef, undef, undef, undef, undef, undef, undef, undef, undef, undef, undef, undef, undef]) Try.func20 Try.ntmps20 rfl rfl ?_
  refine c_rseq (n := 15) ⟨rfl, rfl⟩ ?_
  refine s_new (m_box H rfl rfl) ?_
  intro w b2 H
  refine s_new (m_box H rfl rfl) ?_
  intro w b3 H
  refine s_new (m_alloc (cs := (kC (By.zero 32))) H Try.zeroValue23 rfl) ?_
  intro w b4 H
  refine s_new (m_alloc (cs := (kC (By.zero 32))) H Try.zeroValue23 rfl) ?_
  intro w b5 H
  refine c_nil (l' := [_, _, _, _, _, _, _, _, _, _, _, _, _, _, _]) rfl ?_
  refine c_rseq (n := 15) ⟨rfl, rfl⟩ ?_
  refine s_val (r_loadn Try.isAgg23 Try.sizeOf23 rfl (H.at 2 rfl) (by first | exact (kC_td _) | exact (hC_td _) | exact (hC_seed _)) (by first | exact (kC_length _) | exact (hC_length _) | exact rfl)) ?_
  refine s_call (r_call Try.call39 (ec rfl en)) (rsplit_spec _ _) ?_
  rintro v w ⟨rfl, HC⟩
  replace H := H.quiet HC
  refine s_val (r_move rfl) ?_
  refine s_val (r_extract rfl rfl) ?_
  refine s_val (r_extract rfl rfl) ?_
  refine s_new (m_alloc (cs := (kC (By.zero 32))) H Try.zeroValue22 rfl) ?_
  intro w b6 H
  refine s_new (m_alloc (cs := (kC (By.zero 32))) H Try.zeroValue22 rfl) ?_
  intro w b7 H
  refine s_st (m_storen H 1 32 Try.sizeOf22 rfl rfl (by first | exact (kC_length _) | exact (hC_length _)) (by first | exact (kC_one _) | exact (hC_one _)) rfl (by first | exact (by rw [kC_length]; omega) | exact (by rw [hC_length]; omega)) (by first | exact (kC_sp _ _) | exact (hC_sp _ _))) (L' := [_, _, _, _, _, _]) rfl ?_
  intro w H
  refine s_st (m_storen H 0 32 Try.sizeOf22 rfl rfl (by first | exact (kC_length _) | exact (hC_length _)) (by first | exact (kC_one _) | exact (hC_one _)) rfl (by first | exact (by rw [kC_length]; omega) | exact (by rw [hC_length]; omega)) (by first | exact (kC_sp _ _) | exact (hC_sp _ _))) (L' := [_, _, _, _, _, _]) rfl ?_
  intro w H
  refine c_nil (l' := [_, _, _, _, _, _, _, _, _, _, _, _, _, _, _]) rfl ?_
  refine c_seq ?_
  refine d_begin (sz := 15) ⟨rfl, rfl⟩ (by kernel_rfl) H (H.sub (.cons_cons _ (.cons_cons _ (.cons _ (.cons _ (.cons_cons _ (.cons_cons _ .slnil))))))) rfl ?_
  intro w H
  refine d_take (i := 0) rfl (by kernel_rfl) (fun _ _ _ h => h) (H.sub (.cons_cons _ (.cons_cons _ (.cons _ (.cons _ (.cons_cons _ (.cons_cons _ .slnil))))))) (fun _ HS => r_loadn Try.isAgg22 Try.sizeOf22 rfl (HS.at 1 rfl) (by first | exact (kC_td _) | exact (hC_td _) | exact (hC_seed _)) (by first | exact (kC_length _) | exact (hC_length _) | exact rfl)) rfl ?_
  refine d_take (i := 1) rfl (by kernel_rfl) (fun _ _ _ h => h) (H.sub (.cons_cons _ (.cons_cons _ (.cons _ (.cons _ (.cons_cons _ (.cons_cons _ .slnil))))))) (fun _ HS => r_loadn Try.isAgg22 Try.sizeOf22 rfl (HS.at 0 rfl) (by first | exact (kC_td _) | exact (hC_td _) | exact (hC_seed _)) (by first | exact (kC_length _) | exact (hC_length _) | exact rfl)) rfl ?_
  refine d_all1 (i := 2) (by kernel_rfl) ?_
  refine b_st rfl go_none (m_storen H 3 32 Try.sizeOf23 rfl rfl (by first | exact (kC_length _) | exact (hC_length _)) (by first | exact (kC_one _) | exact (hC_one _)) rfl (by first | exact (by rw [kC_length]; omega) | exact (by rw [hC_length]; omega)) (by first | exact (kC_sp _ _) | exact (hC_sp _ _))) (L' := [_, _, _, _, _, _]) rfl rfl (fun _ H => (H.sub (.cons_cons _ (.cons_cons _ (.cons _ (.cons _ (.cons_cons _ (.cons_cons _ .slnil)))))))) ?_
  intro w H
  refine d_all1 (i := 3) (by kernel_rfl) ?_
  refine b_st rfl go_none (m_storen H 2 32 Try.sizeOf23 rfl rfl (by first | exact (kC_length _) | exact (hC_length _)) (by first | exact (kC_one _) | exact (hC_one _)) rfl (by first | exact (by rw [kC_length]; omega) | exact (by rw [hC_length]; omega)) (by first | exact (kC_sp _ _) | exact (hC_sp _ _))) (L' := [_, _, _, _, _, _]) rfl rfl (fun _ H => (H.sub (.cons_cons _ (.cons_cons _ (.cons _ (.cons _ (.cons_cons _ (.cons_cons _ .slnil)))))))) ?_
  intro w H
  refine d_done (l' := [_, _, _, _, _, _, _, _, _, _, _, _, _, _, _]) (by kernel_rfl) rfl ?_
  refine x_thenNormal ?_
  refine wp_ret ?_
  refine e_ret (rc_two rfl (rc_celln Try.isAgg23 Try.sizeOf23 rfl (H.at 3 rfl) (by first | exact (kC_td _) | exact (hC_td _) | exact (hC_seed _)) (by first | exact (kC_length _) | exact (hC_length _))) (rc_celln Try.isAgg23 Try.sizeOf23 rfl (H.at 2 rfl) (by first | exact (kC_td _) | exact (hC_td _) | exact (hC_seed _)) (by first | exact (kC_length _) | exact (hC_length _)))) ⟨_, rfl, ?_⟩
  exact ⟨rfl, H.sub (.cons _ (.cons _ (.cons _ (.cons _ (.cons _ (.cons _ .slnil))))))⟩

set_option maxHeartbeats 4000000 in
theorem down1_spec (x : Held) (bb bt : Nat) (ci hv : Value) (Tb Tt : TypeId) (fzb fzt : Nat × Nat) (sl sr : Key → Key) (hci : SplitsBy Try.prog ci sl sr) (hd0 : 0 ≤ x.depth) (hd1 : x.depth < 17) (ha0 : 0 ≤ x.at_) (ha1 : x.at_ < 131072) (w0 : World) (hbb : w0.heap[bb]? = some (.cells [.pointer (some ⟨bt, 0, none⟩)].toArray Tb fzb)) (hbt : w0.heap[bt]? = some (.cells [ci, hv].toArray Tt fzt)) :
    Calls Try.prog 45 #[.agg (hC x).toArray, .pointer (some ⟨bb, 0, none⟩)] w0 fun e w => ∃ v, e = .returned v ∧ (v = .tuple #[.agg (hC (kidL sl x)).toArray, .agg (hC (kidR sr x)).toArray] ∧ St w0 [] w []) := by
  obtain ⟨Tc, vc, fc, rv, rfl, hE, hM, hC'⟩ := hci
  have H := St.refl w0
  refine c_enter (args := [.agg (hC x).toArray, .pointer (some ⟨bb, 0, none⟩)]) (l := [.agg (hC x).toArray, .pointer (some ⟨bb, 0, none⟩), undef, undef, undef, undef, undef, undef, undef, undef, undef, undef, undef, undef, undef, undef, undef, undef, undef, undef, undef, undef, undef, undef, undef, undef, undef, undef, undef, undef, undef, undef, undef, undef, undef, undef]) Try.func45 Try.ntmps45 rfl rfl ?_
  refine c_rseq (n := 36) ⟨rfl, rfl⟩ ?_
  refine s_new (m_box H rfl rfl) ?_
  intro w b2 H
  refine s_new (m_alloc (cs := (hC Held.zero)) H Try.zeroValue41 rfl) ?_
  intro w b3 H
  refine s_new (m_alloc (cs := (hC Held.zero)) H Try.zeroValue41 rfl) ?_
  intro w b4 H
  refine c_nil (l' := [_, _, _, _, _, _, _, _, _, _, _, _, _, _, _, _, _, _, _, _, _, _, _, _, _, _, _, _, _, _, _, _, _, _, _, _]) rfl ?_
  refine c_cut (fun (l0 : List Value) (l : List Value) (w : World) => ∃ (u7 u8 u9 u10 u11 u12 u13 u14 u15 u16 : Value) (b5 b6 : Nat), l = ovr l0 [N_, N_, N_, N_, N_, Y_ (.pointer (some ⟨b5, 0, none⟩)), Y_ (.pointer (some ⟨b6, 0, none⟩)), Y_ u7, Y_ u8, Y_ u9, Y_ u10, Y_ u11, Y_ u12, Y_ u13, Y_ u14, Y_ u15, Y_ u16] ∧ St w0 [] w [(b6, .cells (kC (sr x.seed)).toArray 23 (0, 0)), (b5, .cells (kC (sl x.seed)).toArray 23 (0, 0)), (b4, .cells (hC Held.zero).toArray 41 (0, 0)), (b3, .cells (hC Held.zero).toArray 41 (0, 0)), (b2, .cells (hC x).toArray 41 (0, 0))]) ?_ ?_
  · skip
    refine d_begin (sz := 36) ⟨rfl, rfl⟩ (by kernel_rfl) H (H) rfl ?_
    intro w H
    refine d_take (i := 0) rfl (by kernel_rfl) (fun _ _ _ h => h) H (fun _ HS => r_load1 Try.isAgg26 rfl (HS.rd0 hbb) (by first | exact rfl | exact (hC_0 _) | exact (hC_00 _) | exact (hC_1 _))) rfl ?_
    refine d_take (i := 1) rfl (by kernel_rfl) (fun _ _ _ h => h) H (fun _ _ => r_nilCheck rfl) rfl ?_
    refine d_take (i := 2) rfl (by kernel_rfl) (fun _ _ _ h => h) H (fun _ _ => r_fieldAddr (k := 0) Try.runUnderlying68 rfl Try.sizeOf66 (by decide) rfl rfl) rfl ?_
    refine d_take (i := 3) rfl (by kernel_rfl) (fun _ _ _ h => h) H (fun _ HS => r_load1 Try.isAgg66 rfl (HS.rd0 hbt) (by first | exact rfl | exact (hC_0 _) | exact (hC_00 _) | exact (hC_1 _))) rfl ?_
    refine d_take (i := 4) rfl (by kernel_rfl) (fun _ _ _ h => h) H (fun _ _ => r_fieldAddr (k := 2) Try.runUnderlying41 rfl Try.sizeOf23 (by decide) rfl rfl) rfl ?_
    refine d_take (i := 5) rfl (by kernel_rfl) (fun _ _ _ h => h) H (fun _ HS => r_loadn Try.isAgg23 Try.sizeOf23 rfl (HS.at 2 rfl) (by first | exact (kC_td _) | exact (hC_td _) | exact (hC_seed _)) (by first | exact (kC_length _) | exact (hC_length _) | exact rfl)) rfl ?_
    refine d_all3 (i := 6) (j := 10) (k := 11) (by kernel_rfl) ?_ ?_ ?_
    · skip
      refine b_call rfl go_none (r_invoke hE rfl hM (ec rfl en)) (hC' _ _) rfl ?_
      rintro v w ⟨rfl, HC⟩
      replace H := H.quiet HC
      refine ⟨H, ?_⟩
      refine d_take (i := 7) rfl (by kernel_rfl) (fun _ _ _ h => h) H (fun _ _ => r_move rfl) rfl ?_
      refine d_take (i := 8) rfl (by kernel_rfl) (fun _ _ _ h => h) H (fun _ _ => r_extract rfl rfl) rfl ?_
      refine d_take (i := 9) rfl (by kernel_rfl) (fun _ _ _ h => h) H (fun _ _ => r_extract rfl rfl) rfl ?_
      refine d_all2 (i := 10) (j := 11) (by kernel_rfl) ?_ ?_
      · skip
        refine b_new rfl go_none (m_alloc (cs := (kC (By.zero 32))) H Try.zeroValue23 rfl) rfl (fun _ _ H => (H.sub (.cons _ (.cons_cons _ (.cons_cons _ (.cons_cons _ .slnil)))))) ?_
        intro w b5 H
        refine d_all1 (i := 11) (by kernel_rfl) ?_
        refine b_new rfl go_none (m_alloc (cs := (kC (By.zero 32))) H Try.zeroValue23 rfl) rfl (fun _ _ H => (H.sub (.cons _ (.cons _ (.cons_cons _ (.cons_cons _ (.cons_cons _ .slnil))))))) ?_
        intro w b6 H
        refine d_all1 (i := 12) (by kernel_rfl) ?_
        refine b_st rfl go_none (m_storen H 1 32 Try.sizeOf23 rfl rfl (by first | exact (kC_length _) | exact (hC_length _)) (by first | exact (kC_one _) | exact (hC_one _)) rfl (by first | exact (by rw [kC_length]; omega) | exact (by rw [hC_length]; omega)) (by first | exact (kC_sp _ _) | exact (hC_sp _ _))) (L' := [_, _, _, _, _]) rfl rfl (fun _ H => (H.sub (.cons _ (.cons _ (.cons_cons _ (.cons_cons _ (.cons_cons _ .slnil))))))) ?_
        intro w H
        refine d_all1 (i := 13) (by kernel_rfl) ?_
        refine b_st rfl go_none (m_storen H 0 32 Try.sizeOf23 rfl rfl (by first | exact (kC_length _) | exact (hC_length _)) (by first | exact (kC_one _) | exact (hC_one _)) rfl (by first | exact (by rw [kC_length]; omega) | exact (by rw [hC_length]; omega)) (by first | exact (kC_sp _ _) | exact (hC_sp _ _))) (L' := [_, _, _, _, _]) rfl rfl (fun _ H => (H.sub (.cons _ (.cons _ (.cons_cons _ (.cons_cons _ (.cons_cons _ .slnil))))))) ?_
        intro w H
        refine d_done (l' := [_, _, _, _, _, _, _, _, _, _, _, _, _, _, _, _, _, _, _, _, _, _, _, _, _, _, _, _, _, _, _, _, _, _, _, _]) (by kernel_rfl) rfl ?_
        exact ⟨_, rfl, ⟨_, _, _, _, _, _, _, _, _, _, _, _, rfl, H⟩⟩
      · skip
        refine b_new rfl go_none (m_alloc (cs := (kC (By.zero 32))) H Try.zeroValue23 rfl) rfl (fun _ _ H => (H.sub (.cons _ (.cons_cons _ (.cons_cons _ (.cons_cons _ .slnil)))))) ?_
        intro w b6 H
        refine d_all1 (i := 10) (by kernel_rfl) ?_
        refine b_new rfl go_none (m_alloc (cs := (kC (By.zero 32))) H Try.zeroValue23 rfl) rfl (fun _ _ H => (H.sub (.cons _ (.cons _ (.cons_cons _ (.cons_cons _ (.cons_cons _ .slnil))))))) ?_
        intro w b5 H
        refine d_all1 (i := 12) (by kernel_rfl) ?_
        refine b_st rfl go_none (m_storen H 0 32 Try.sizeOf23 rfl rfl (by first | exact (kC_length _) | exact (hC_length _)) (by first | exact (kC_one _) | exact (hC_one _)) rfl (by first | exact (by rw [kC_length]; omega) | exact (by rw [hC_length]; omega)) (by first | exact (kC_sp _ _) | exact (hC_sp _ _))) (L' := [_, _, _, _, _]) rfl rfl (fun _ H => (H.sub (.cons _ (.cons _ (.cons_cons _ (.cons_cons _ (.cons_cons _ .slnil))))))) ?_
        intro w H
        refine d_all1 (i := 13) (by kernel_rfl) ?_
        refine b_st rfl go_none (m_storen H 1 32 Try.sizeOf23 rfl rfl (by first | exact (kC_length _) | exact (hC_length _)) (by first | exact (kC_one _) | exact (hC_one _)) rfl (by first | exact (by rw [kC_length]; omega) | exact (by rw [hC_length]; omega)) (by first | exact (kC_sp _ _) | exact (hC_sp _ _))) (L' := [_, _, _, _, _]) rfl rfl (fun _ H => (H.sub (.cons _ (.cons _ (.cons_cons _ (.cons_cons _ (.cons_cons _ .slnil))))))) ?_
        intro w H
        refine d_done (l' := [_, _, _, _, _, _, _, _, _, _, _, _, _, _, _, _, _, _, _, _, _, _, _, _, _, _, _, _, _, _, _, _, _, _, _, _]) (by kernel_rfl) rfl ?_
        replace H := H.swp 0 (L' := [_, _, _, _, _]) rfl
        exact ⟨_, rfl, ⟨_, _, _, _, _, _, _, _, _, _, _, _, rfl, H⟩⟩
    · skip
      refine b_new rfl go_none (m_alloc (cs := (kC (By.zero 32))) H Try.zeroValue23 rfl) rfl (fun _ _ H => (H.sub (.cons _ (.cons_cons _ (.cons_cons _ (.cons_cons _ .slnil)))))) ?_
      intro w b5 H
      refine d_all2 (i := 6) (j := 11) (by kernel_rfl) ?_ ?_
      · skip
        refine b_call rfl go_none (r_invoke hE rfl hM (ec rfl en)) (hC' _ _) rfl ?_
        rintro v w ⟨rfl, HC⟩
        replace H := H.quiet HC
        refine ⟨(H.sub (.cons _ (.cons_cons _ (.cons_cons _ (.cons_cons _ .slnil))))), ?_⟩
        refine d_take (i := 7) rfl (by kernel_rfl) (fun _ _ _ h => h) (H.sub (.cons _ (.cons_cons _ (.cons_cons _ (.cons_cons _ .slnil))))) (fun _ _ => r_move rfl) rfl ?_
        refine d_take (i := 8) rfl (by kernel_rfl) (fun _ _ _ h => h) (H.sub (.cons _ (.cons_cons _ (.cons_cons _ (.cons_cons _ .slnil))))) (fun _ _ => r_extract rfl rfl) rfl ?_
        refine d_take (i := 9) rfl (by kernel_rfl) (fun _ _ _ h => h) (H.sub (.cons _ (.cons_cons _ (.cons_cons _ (.cons_cons _ .slnil))))) (fun _ _ => r_extract rfl rfl) rfl ?_
        refine d_all1 (i := 11) (by kernel_rfl) ?_
        refine b_new rfl go_none (m_alloc (cs := (kC (By.zero 32))) H Try.zeroValue23 rfl) rfl (fun _ _ H => (H.sub (.cons _ (.cons _ (.cons_cons _ (.cons_cons _ (.cons_cons _ .slnil))))))) ?_
        intro w b6 H
        refine d_all1 (i := 12) (by kernel_rfl) ?_
        refine b_st rfl go_none (m_storen H 1 32 Try.sizeOf23 rfl rfl (by first | exact (kC_length _) | exact (hC_length _)) (by first | exact (kC_one _) | exact (hC_one _)) rfl (by first | exact (by rw [kC_length]; omega) | exact (by rw [hC_length]; omega)) (by first | exact (kC_sp _ _) | exact (hC_sp _ _))) (L' := [_, _, _, _, _]) rfl rfl (fun _ H => (H.sub (.cons _ (.cons _ (.cons_cons _ (.cons_cons _ (.cons_cons _ .slnil))))))) ?_
        intro w H
        refine d_all1 (i := 13) (by kernel_rfl) ?_
        refine b_st rfl go_none (m_storen H 0 32 Try.sizeOf23 rfl rfl (by first | exact (kC_length _) | exact (hC_length _)) (by first | exact (kC_one _) | exact (hC_one _)) rfl (by first | exact (by rw [kC_length]; omega) | exact (by rw [hC_length]; omega)) (by first | exact (kC_sp _ _) | exact (hC_sp _ _))) (L' := [_, _, _, _, _]) rfl rfl (fun _ H => (H.sub (.cons _ (.cons _ (.cons_cons _ (.cons_cons _ (.cons_cons _ .slnil))))))) ?_
        intro w H
        refine d_done (l' := [_, _, _, _, _, _, _, _, _, _, _, _, _, _, _, _, _, _, _, _, _, _, _, _, _, _, _, _, _, _, _, _, _, _, _, _]) (by kernel_rfl) rfl ?_
        exact ⟨_, rfl, ⟨_, _, _, _, _, _, _, _, _, _, _, _, rfl, H⟩⟩
      · skip
        refine b_new rfl go_none (m_alloc (cs := (kC (By.zero 32))) H Try.zeroValue23 rfl) rfl (fun _ _ H => (H.sub (.cons _ (.cons _ (.cons_cons _ (.cons_cons _ (.cons_cons _ .slnil))))))) ?_
        intro w b6 H
        refine d_all1 (i := 6) (by kernel_rfl) ?_
        refine b_call rfl go_none (r_invoke hE rfl hM (ec rfl en)) (hC' _ _) rfl ?_
        rintro v w ⟨rfl, HC⟩
        replace H := H.quiet HC
        refine ⟨(H.sub (.cons _ (.cons _ (.cons_cons _ (.cons_cons _ (.cons_cons _ .slnil)))))), ?_⟩
        refine d_take (i := 7) rfl (by kernel_rfl) (fun _ _ _ h => h) (H.sub (.cons _ (.cons _ (.cons_cons _ (.cons_cons _ (.cons_cons _ .slnil)))))) (fun _ _ => r_move rfl) rfl ?_
        refine d_take (i := 8) rfl (by kernel_rfl) (fun _ _ _ h => h) (H.sub (.cons _ (.cons _ (.cons_cons _ (.cons_cons _ (.cons_cons _ .slnil)))))) (fun _ _ => r_extract rfl rfl) rfl ?_
        refine d_take (i := 9) rfl (by kernel_rfl) (fun _ _ _ h => h) (H.sub (.cons _ (.cons _ (.cons_cons _ (.cons_cons _ (.cons_cons _ .slnil)))))) (fun _ _ => r_extract rfl rfl) rfl ?_
        refine d_all1 (i := 12) (by kernel_rfl) ?_
        refine b_st rfl go_none (m_storen H 1 32 Try.sizeOf23 rfl rfl (by first | exact (kC_length _) | exact (hC_length _)) (by first | exact (kC_one _) | exact (hC_one _)) rfl (by first | exact (by rw [kC_length]; omega) | exact (by rw [hC_length]; omega)) (by first | exact (kC_sp _ _) | exact (hC_sp _ _))) (L' := [_, _, _, _, _]) rfl rfl (fun _ H => (H.sub (.cons _ (.cons _ (.cons_cons _ (.cons_cons _ (.cons_cons _ .slnil))))))) ?_
        intro w H
        refine d_all1 (i := 13) (by kernel_rfl) ?_
        refine b_st rfl go_none (m_storen H 0 32 Try.sizeOf23 rfl rfl (by first | exact (kC_length _) | exact (hC_length _)) (by first | exact (kC_one _) | exact (hC_one _)) rfl (by first | exact (by rw [kC_length]; omega) | exact (by rw [hC_length]; omega)) (by first | exact (kC_sp _ _) | exact (hC_sp _ _))) (L' := [_, _, _, _, _]) rfl rfl (fun _ H => (H.sub (.cons _ (.cons _ (.cons_cons _ (.cons_cons _ (.cons_cons _ .slnil))))))) ?_
        intro w H
        refine d_done (l' := [_, _, _, _, _, _, _, _, _, _, _, _, _, _, _, _, _, _, _, _, _, _, _, _, _, _, _, _, _, _, _, _, _, _, _, _]) (by kernel_rfl) rfl ?_
        exact ⟨_, rfl, ⟨_, _, _, _, _, _, _, _, _, _, _, _, rfl, H⟩⟩
    · skip
      refine b_new rfl go_none (m_alloc (cs := (kC (By.zero 32))) H Try.zeroValue23 rfl) rfl (fun _ _ H => (H.sub (.cons _ (.cons_cons _ (.cons_cons _ (.cons_cons _ .slnil)))))) ?_
      intro w b6 H
      refine d_all2 (i := 6) (j := 10) (by kernel_rfl) ?_ ?_
      · skip
        refine b_call rfl go_none (r_invoke hE rfl hM (ec rfl en)) (hC' _ _) rfl ?_
        rintro v w ⟨rfl, HC⟩
        replace H := H.quiet HC
        refine ⟨(H.sub (.cons _ (.cons_cons _ (.cons_cons _ (.cons_cons _ .slnil))))), ?_⟩
        refine d_take (i := 7) rfl (by kernel_rfl) (fun _ _ _ h => h) (H.sub (.cons _ (.cons_cons _ (.cons_cons _ (.cons_cons _ .slnil))))) (fun _ _ => r_move rfl) rfl ?_
        refine d_take (i := 8) rfl (by kernel_rfl) (fun _ _ _ h => h) (H.sub (.cons _ (.cons_cons _ (.cons_cons _ (.cons_cons _ .slnil))))) (fun _ _ => r_extract rfl rfl) rfl ?_
        refine d_take (i := 9) rfl (by kernel_rfl) (fun _ _ _ h => h) (H.sub (.cons _ (.cons_cons _ (.cons_cons _ (.cons_cons _ .slnil))))) (fun _ _ => r_extract rfl rfl) rfl ?_
        refine d_all1 (i := 10) (by kernel_rfl) ?_
        refine b_new rfl go_none (m_alloc (cs := (kC (By.zero 32))) H Try.zeroValue23 rfl) rfl (fun _ _ H => (H.sub (.cons _ (.cons _ (.cons_cons _ (.cons_cons _ (.cons_cons _ .slnil))))))) ?_
        intro w b5 H
        refine d_all1 (i := 12) (by kernel_rfl) ?_
        refine b_st rfl go_none (m_storen H 0 32 Try.sizeOf23 rfl rfl (by first | exact (kC_length _) | exact (hC_length _)) (by first | exact (kC_one _) | exact (hC_one _)) rfl (by first | exact (by rw [kC_length]; omega) | exact (by rw [hC_length]; omega)) (by first | exact (kC_sp _ _) | exact (hC_sp _ _))) (L' := [_, _, _, _, _]) rfl rfl (fun _ H => (H.sub (.cons _ (.cons _ (.cons_cons _ (.cons_cons _ (.cons_cons _ .slnil))))))) ?_
        intro w H
        refine d_all1 (i := 13) (by kernel_rfl) ?_
        refine b_st rfl go_none (m_storen H 1 32 Try.sizeOf23 rfl rfl (by first | exact (kC_length _) | exact (hC_length _)) (by first | exact (kC_one _) | exact (hC_one _)) rfl (by first | exact (by rw [kC_length]; omega) | exact (by rw [hC_length]; omega)) (by first | exact (kC_sp _ _) | exact (hC_sp _ _))) (L' := [_, _, _, _, _]) rfl rfl (fun _ H => (H.sub (.cons _ (.cons _ (.cons_cons _ (.cons_cons _ (.cons_cons _ .slnil))))))) ?_
        intro w H
        refine d_done (l' := [_, _, _, _, _, _, _, _, _, _, _, _, _, _, _, _, _, _, _, _, _, _, _, _, _, _, _, _, _, _, _, _, _, _, _, _]) (by kernel_rfl) rfl ?_
        replace H := H.swp 0 (L' := [_, _, _, _, _]) rfl
        exact ⟨_, rfl, ⟨_, _, _, _, _, _, _, _, _, _, _, _, rfl, H⟩⟩
      · skip
        refine b_new rfl go_none (m_alloc (cs := (kC (By.zero 32))) H Try.zeroValue23 rfl) rfl (fun _ _ H => (H.sub (.cons _ (.cons _ (.cons_cons _ (.cons_cons _ (.cons_cons _ .slnil))))))) ?_
        intro w b5 H
        refine d_all1 (i := 6) (by kernel_rfl) ?_
        refine b_call rfl go_none (r_invoke hE rfl hM (ec rfl en)) (hC' _ _) rfl ?_
        rintro v w ⟨rfl, HC⟩
        replace H := H.quiet HC
        refine ⟨(H.sub (.cons _ (.cons _ (.cons_cons _ (.cons_cons _ (.cons_cons _ .slnil)))))), ?_⟩
        refine d_take (i := 7) rfl (by kernel_rfl) (fun _ _ _ h => h) (H.sub (.cons _ (.cons _ (.cons_cons _ (.cons_cons _ (.cons_cons _ .slnil)))))) (fun _ _ => r_move rfl) rfl ?_
        refine d_take (i := 8) rfl (by kernel_rfl) (fun _ _ _ h => h) (H.sub (.cons _ (.cons _ (.cons_cons _ (.cons_cons _ (.cons_cons _ .slnil)))))) (fun _ _ => r_extract rfl rfl) rfl ?_
        refine d_take (i := 9) rfl (by kernel_rfl) (fun _ _ _ h => h) (H.sub (.cons _ (.cons _ (.cons_cons _ (.cons_cons _ (.cons_cons _ .slnil)))))) (fun _ _ => r_extract rfl rfl) rfl ?_
        refine d_all1 (i := 12) (by kernel_rfl) ?_
        refine b_st rfl go_none (m_storen H 0 32 Try.sizeOf23 rfl rfl (by first | exact (kC_length _) | exact (hC_length _)) (by first | exact (kC_one _) | exact (hC_one _)) rfl (by first | exact (by rw [kC_length]; omega) | exact (by rw [hC_length]; omega)) (by first | exact (kC_sp _ _) | exact (hC_sp _ _))) (L' := [_, _, _, _, _]) rfl rfl (fun _ H => (H.sub (.cons _ (.cons _ (.cons_cons _ (.cons_cons _ (.cons_cons _ .slnil))))))) ?_
        intro w H
        refine d_all1 (i := 13) (by kernel_rfl) ?_
        refine b_st rfl go_none (m_storen H 1 32 Try.sizeOf23 rfl rfl (by first | exact (kC_length _) | exact (hC_length _)) (by first | exact (kC_one _) | exact (hC_one _)) rfl (by first | exact (by rw [kC_length]; omega) | exact (by rw [hC_length]; omega)) (by first | exact (kC_sp _ _) | exact (hC_sp _ _))) (L' := [_, _, _, _, _]) rfl rfl (fun _ H => (H.sub (.cons _ (.cons _ (.cons_cons _ (.cons_cons _ (.cons_cons _ .slnil))))))) ?_
        intro w H
        refine d_done (l' := [_, _, _, _, _, _, _, _, _, _, _, _, _, _, _, _, _, _, _, _, _, _, _, _, _, _, _, _, _, _, _, _, _, _, _, _]) (by kernel_rfl) rfl ?_
        replace H := H.swp 0 (L' := [_, _, _, _, _]) rfl
        exact ⟨_, rfl, ⟨_, _, _, _, _, _, _, _, _, _, _, _, rfl, H⟩⟩
  · skip
    rintro l w ⟨u7, u8, u9, u10, u11, u12, u13, u14, u15, u16, b5, b6, hl, H⟩
    obtain rfl := hl.trans (rfl : _ = [_, _, _, _, _, _, _, _, _, _, _, _, _, _, _, _, _, _, _, _, _, _, _, _, _, _, _, _, _, _, _, _, _, _, _, _])
    clear hl
    refine c_seq ?_
    refine d_begin (sz := 36) ⟨rfl, rfl⟩ (by kernel_rfl) H (H.sub (.cons_cons _ (.cons_cons _ (.cons _ (.cons _ (.cons_cons _ .slnil)))))) rfl ?_
    intro w H
    refine d_take (i := 0) rfl (by kernel_rfl) (fun _ _ _ h => h) (H.sub (.cons_cons _ (.cons_cons _ (.cons _ (.cons _ (.cons_cons _ .slnil)))))) (fun _ _ => r_fieldAddr (k := 0) Try.runUnderlying41 rfl Try.sizeOf3 (by decide) rfl rfl) rfl ?_
    refine d_take (i := 1) rfl (by kernel_rfl) (fun _ _ _ h => h) (H.sub (.cons_cons _ (.cons_cons _ (.cons _ (.cons _ (.cons_cons _ .slnil)))))) (fun _ HS => r_load1 Try.isAgg3 rfl (HS.at 2 rfl) (by first | exact rfl | exact (hC_0 _) | exact (hC_00 _) | exact (hC_1 _))) rfl ?_
    refine d_take (i := 2) rfl (by kernel_rfl) (fun _ _ _ h => h) (H.sub (.cons_cons _ (.cons_cons _ (.cons _ (.cons _ (.cons_cons _ .slnil)))))) (fun _ _ => r_add rfl rfl (w_i64 (by omega) (by omega))) rfl ?_
    refine d_take (i := 3) rfl (by kernel_rfl) (fun _ _ _ h => h) (H.sub (.cons_cons _ (.cons_cons _ (.cons _ (.cons _ (.cons_cons _ .slnil)))))) (fun _ _ => r_fieldAddr (k := 1) Try.runUnderlying41 rfl Try.sizeOf31 (by decide) rfl rfl) rfl ?_
    refine d_take (i := 4) rfl (by kernel_rfl) (fun _ _ _ h => h) (H.sub (.cons_cons _ (.cons_cons _ (.cons _ (.cons _ (.cons_cons _ .slnil)))))) (fun _ HS => r_load1 Try.isAgg31 rfl (HS.at 2 rfl) (by first | exact rfl | exact (hC_0 _) | exact (hC_00 _) | exact (hC_1 _))) rfl ?_
    refine d_take (i := 5) rfl (by kernel_rfl) (fun _ _ _ h => h) (H.sub (.cons_cons _ (.cons_cons _ (.cons _ (.cons _ (.cons_cons _ .slnil)))))) (fun _ HS => r_loadn Try.isAgg23 Try.sizeOf23 rfl (HS.at 1 rfl) (by first | exact (kC_td _) | exact (hC_td _) | exact (hC_seed _)) (by first | exact (kC_length _) | exact (hC_length _) | exact rfl)) rfl ?_
    refine d_take (i := 6) rfl (by kernel_rfl) (fun _ _ _ h => h) (H.sub (.cons_cons _ (.cons_cons _ (.cons _ (.cons _ (.cons_cons _ .slnil)))))) (fun _ _ => r_buildS Try.runUnderlying41 Try.zeroValue41 places41 (pc rfl (pc rfl (pc rfl pn))) (by first | exact (hfill _ _ _) | exact (hfill1 _))) rfl ?_
    refine d_take (i := 7) rfl (by kernel_rfl) (fun _ _ _ h => h) (H.sub (.cons_cons _ (.cons_cons _ (.cons _ (.cons _ (.cons_cons _ .slnil)))))) (fun _ _ => r_fieldAddr (k := 0) Try.runUnderlying41 rfl Try.sizeOf3 (by decide) rfl rfl) rfl ?_
    refine d_take (i := 8) rfl (by kernel_rfl) (fun _ _ _ h => h) (H.sub (.cons_cons _ (.cons_cons _ (.cons _ (.cons _ (.cons_cons _ .slnil)))))) (fun _ HS => r_load1 Try.isAgg3 rfl (HS.at 2 rfl) (by first | exact rfl | exact (hC_0 _) | exact (hC_00 _) | exact (hC_1 _))) rfl ?_
    refine d_take (i := 9) rfl (by kernel_rfl) (fun _ _ _ h => h) (H.sub (.cons_cons _ (.cons_cons _ (.cons _ (.cons _ (.cons_cons _ .slnil)))))) (fun _ _ => r_add rfl rfl (w_i64 (by omega) (by omega))) rfl ?_
    refine d_take (i := 10) rfl (by kernel_rfl) (fun _ _ _ h => h) (H.sub (.cons_cons _ (.cons_cons _ (.cons _ (.cons _ (.cons_cons _ .slnil)))))) (fun _ _ => r_fieldAddr (k := 1) Try.runUnderlying41 rfl Try.sizeOf31 (by decide) rfl rfl) rfl ?_
    refine d_take (i := 11) rfl (by kernel_rfl) (fun _ _ _ h => h) (H.sub (.cons_cons _ (.cons_cons _ (.cons _ (.cons _ (.cons_cons _ .slnil)))))) (fun _ HS => r_load1 Try.isAgg31 rfl (HS.at 2 rfl) (by first | exact rfl | exact (hC_0 _) | exact (hC_00 _) | exact (hC_1 _))) rfl ?_
    refine d_take (i := 12) rfl (by kernel_rfl) (fun _ _ _ h => h) (H.sub (.cons_cons _ (.cons_cons _ (.cons _ (.cons _ (.cons_cons _ .slnil)))))) (fun _ _ => r_fieldAddr (k := 0) Try.runUnderlying41 rfl Try.sizeOf3 (by decide) rfl rfl) rfl ?_
    refine d_take (i := 13) rfl (by kernel_rfl) (fun _ _ _ h => h) (H.sub (.cons_cons _ (.cons_cons _ (.cons _ (.cons _ (.cons_cons _ .slnil)))))) (fun _ HS => r_load1 Try.isAgg3 rfl (HS.at 2 rfl) (by first | exact rfl | exact (hC_0 _) | exact (hC_00 _) | exact (hC_1 _))) rfl ?_
    refine d_take (i := 14) rfl (by kernel_rfl) (fun _ _ _ h => h) (H.sub (.cons_cons _ (.cons_cons _ (.cons _ (.cons _ (.cons_cons _ .slnil)))))) (fun _ _ => r_add rfl rfl (w_i64 (by omega) (by omega))) rfl ?_
    refine d_take (i := 17) rfl (by kernel_rfl) (fun _ _ _ h => h) (H.sub (.cons_cons _ (.cons_cons _ (.cons _ (.cons _ (.cons_cons _ .slnil)))))) (fun _ HS => r_loadn Try.isAgg23 Try.sizeOf23 rfl (HS.at 0 rfl) (by first | exact (kC_td _) | exact (hC_td _) | exact (hC_seed _)) (by first | exact (kC_length _) | exact (hC_length _) | exact rfl)) rfl ?_
    refine d_all1 (i := 15) (by kernel_rfl) ?_
    have hmp := many_pos (x.depth + 1)
    have hml := many_le (n := x.depth + 1) (by omega)
    refine b_call rfl go_none (r_call Try.call37 (ec rfl en)) (many_spec _ (by omega) (by omega) _) rfl ?_
    rintro v w ⟨rfl, HC⟩
    replace H := H.quiet HC
    refine ⟨(H.sub (.cons_cons _ (.cons_cons _ (.cons _ (.cons _ (.cons_cons _ .slnil)))))), ?_⟩
    refine d_take (i := 16) rfl (by kernel_rfl) (fun _ _ _ h => h) (H.sub (.cons_cons _ (.cons_cons _ (.cons _ (.cons _ (.cons_cons _ .slnil)))))) (fun _ _ => r_add rfl rfl (w_u64 (by omega) (by omega))) rfl ?_
    refine d_take (i := 18) rfl (by kernel_rfl) (fun _ _ _ h => h) (H.sub (.cons_cons _ (.cons_cons _ (.cons _ (.cons _ (.cons_cons _ .slnil)))))) (fun _ _ => r_buildS Try.runUnderlying41 Try.zeroValue41 places41 (pc rfl (pc rfl (pc rfl pn))) (by first | exact (hfill _ _ _) | exact (hfill1 _))) rfl ?_
    refine d_all1 (i := 19) (by kernel_rfl) ?_
    refine b_st rfl go_none (m_storen H 3 34 Try.sizeOf41 rfl rfl (by first | exact (kC_length _) | exact (hC_length _)) (by first | exact (kC_one _) | exact (hC_one _)) rfl (by first | exact (by rw [kC_length]; omega) | exact (by rw [hC_length]; omega)) (by first | exact (kC_sp _ _) | exact (hC_sp _ _))) (L' := [_, _, _, _, _]) rfl rfl (fun _ H => (H.sub (.cons_cons _ (.cons_cons _ (.cons _ (.cons _ (.cons_cons _ .slnil))))))) ?_
    intro w H
    refine d_all1 (i := 20) (by kernel_rfl) ?_
    refine b_st rfl go_none (m_storen H 2 34 Try.sizeOf41 rfl rfl (by first | exact (kC_length _) | exact (hC_length _)) (by first | exact (kC_one _) | exact (hC_one _)) rfl (by first | exact (by rw [kC_length]; omega) | exact (by rw [hC_length]; omega)) (by first | exact (kC_sp _ _) | exact (hC_sp _ _))) (L' := [_, _, _, _, _]) rfl rfl (fun _ H => (H.sub (.cons_cons _ (.cons_cons _ (.cons _ (.cons _ (.cons_cons _ .slnil))))))) ?_
    intro w H
    refine d_done (l' := [_, _, _, _, _, _, _, _, _, _, _, _, _, _, _, _, _, _, _, _, _, _, _, _, _, _, _, _, _, _, _, _, _, _, _, _]) (by kernel_rfl) rfl ?_
    refine x_thenNormal ?_
    refine wp_ret ?_
    refine e_ret (rc_two rfl (rc_celln Try.isAgg41 Try.sizeOf41 rfl (H.at 3 rfl) (by first | exact (kC_td _) | exact (hC_td _) | exact (hC_seed _)) (by first | exact (kC_length _) | exact (hC_length _))) (rc_celln Try.isAgg41 Try.sizeOf41 rfl (H.at 2 rfl) (by first | exact (kC_td _) | exact (hC_td _) | exact (hC_seed _)) (by first | exact (kC_length _) | exact (hC_length _)))) ⟨_, rfl, ?_⟩
    exact ⟨rfl, H.sub (.cons _ (.cons _ (.cons _ (.cons _ (.cons _ .slnil)))))⟩

end Go.Proofs.Ytblphhclfloodaa
