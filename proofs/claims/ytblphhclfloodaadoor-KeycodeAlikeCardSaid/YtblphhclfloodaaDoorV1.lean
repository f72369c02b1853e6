import Derived.Test.YtblphhclfloodaaDoorD7
import Derived.Test.YtblphhclfloodaaDoorW1
namespace Go.Proofs.YtblphhclfloodaaDoor
open Go Go.Er

theorem shrN {n : Int} {k : Nat} (h : k ≤ 64) : n.fdiv (2 ^ min ((k : Nat) : Int).toNat IntKind.u64.bits) = n / 2 ^ k := by
  have e : min ((k : Nat) : Int).toNat IntKind.u64.bits = k := Nat.min_eq_left h
  rw [e, Int.fdiv_eq_ediv_of_nonneg _ (Int.le_of_lt (Int.pow_pos (by omega)))]
/-- the table of math/bits, as it is laid -/
def TabH (w : World) : Prop := ∃ T fz, w.heap[0]? = some (.cells (Lib.deBruijn64tab.map fun z : Nat => Value.int .u8 (z : Int)).toArray T fz)
theorem TabH.st {w0 w : World} {L : List (Nat × Obj)} (h : TabH w0) (H : St w0 [] w L) : TabH w := by obtain ⟨T, fz, h⟩ := h; exact ⟨T, fz, H.rd0 h⟩
theorem tab_get {off c : Nat} {i : Nat} (h : Lib.deBruijn64tab.getD i 0 = c) (hi : i < 64) (ho : off = i) : (Lib.deBruijn64tab.map fun z : Nat => Value.int .u8 (z : Int))[off]? = some (.int .u8 (c : Int)) := by
  subst ho h
  have hl : off < Lib.deBruijn64tab.length := hi
  rw [List.getElem?_map, List.getElem?_eq_getElem hl]
  simp [List.getD_eq_getElem?_getD, List.getElem?_eq_getElem hl]
theorem neg_u64 {x : Nat} (h : x ≠ 0) (h1 : x < 18446744073709551616) : IntKind.u64.wrap (0 - (x : Int)) = ((18446744073709551616 - x : Nat) : Int) := by rw [w_u64']; omega
theorem and_u64 {a b c : Nat} (ha : a < 18446744073709551616) (hb : b < 18446744073709551616) (h : a &&& b = c) : IntKind.u64.wrap (BitVec.ofInt IntKind.u64.bits (a : Int) &&& BitVec.ofInt IntKind.u64.bits (b : Int)).toNat = (c : Int) := by
  show IntKind.u64.wrap ((BitVec.ofInt 64 (a : Int) &&& BitVec.ofInt 64 (b : Int)).toNat : Int) = _
  rw [BitVec.toNat_and, bv_of (by omega), bv_of (by omega), h]
  have := Nat.and_le_left (n := a) (m := b)
  exact w_u64 (by omega) (by omega)

set_option maxHeartbeats 4000000 in
theorem tz_spec (n : Int) (_h0 : 0 ≤ n) (_h1 : n < 18446744073709551616) (w0 : World) (hT : TabH w0) :
    Calls Tryd.prog 40 #[.int .u64 n] w0 fun e w => ∃ v, e = .returned v ∧ (v = .int .i64 (tz n) ∧ St w0 [] w []) := by
  have H := St.refl w0
  refine c_enter (args := [.int .u64 n]) (l := [.int .u64 n, undef, undef, undef, undef, undef, undef, undef, undef, undef, undef, undef, undef, undef]) Tryd.func40 Tryd.ntmps40 rfl rfl ?_
  refine c_rseq (n := 14) ⟨rfl, rfl⟩ ?_
  refine s_val (r_assign rfl) ?_
  refine c_nil (l' := [_, _, _, _, _, _, _, _, _, _, _, _, _, _]) rfl ?_
  refine c_seq ?_
  refine c_rseq (n := 14) ⟨rfl, rfl⟩ ?_
  refine s_val (r_move rfl) ?_
  refine s_val (r_eql rfl rfl) ?_
  refine c_nil (l' := [_, _, _, _, _, _, _, _, _, _, _, _, _, _]) rfl ?_
  refine c_if rfl (fun h4 => ?_) (fun h4 => ?_)
  · skip
    refine c_rseq (n := 14) ⟨rfl, rfl⟩ ?_
    refine s_val (r_assign rfl) ?_
    refine c_nil (l' := [_, _, _, _, _, _, _, _, _, _, _, _, _, _]) rfl ?_
    refine wp_ret (x_thenRet ?_)
    refine e_ret (res1 rfl rfl) ⟨_, rfl, ?_⟩
    subst h4
    exact ⟨rfl, H⟩
  · skip
    obtain ⟨x, rfl⟩ : ∃ x : Nat, n = (x : Int) := ⟨n.toNat, by omega⟩
    have hx0 : x ≠ 0 := by rintro rfl; exact h4 rfl
    obtain ⟨hlow, hk⟩ := Lib.lowest_bit 64 x hx0 (by omega)
    obtain ⟨hi, htab⟩ := Lib.deBruijn64_at _ hk
    obtain ⟨T, fz, hb⟩ := hT
    obtain ⟨idx, hidx⟩ : ∃ i : Nat, i = 2 ^ Lib.ctz 64 x * 285870213051353865 % 18446744073709551616 / 288230376151711744 := ⟨_, rfl⟩
    rw [← hidx] at hi htab
    have hpw : 2 ^ Lib.ctz 64 x < 2 ^ 64 := Nat.pow_lt_pow_right (by omega) hk
    refine wp_skip ?_
    refine x_thenNormal ?_
    refine c_rseq (n := 14) ⟨rfl, rfl⟩ ?_
    refine s_val (r_move rfl) ?_
    refine s_val (r_move rfl) ?_
    refine s_val (r_neg rfl (neg_u64 hx0 (by omega))) ?_
    refine s_val (r_and rfl rfl (and_u64 (by omega) (by omega) hlow)) ?_
    refine s_val (r_mul (r := ((2 ^ Lib.ctz 64 x * 285870213051353865 % 18446744073709551616 : Nat) : Int)) rfl rfl (by rw [w_u64']; omega)) ?_
    refine s_val (r_shr (r := (idx : Int)) rfl rfl (by omega) (by rw [hidx]; show Int.fdiv _ 288230376151711744 = _; rw [Int.fdiv_eq_ediv_of_nonneg _ (by omega)]; omega)) ?_
    refine s_val (r_indexAddrA Tryd.runUnderlying99 Tryd.sizeOf5 (b := 0) (off := 0) rfl rfl (by omega) (by omega)) ?_
    refine s_val (r_load1 Tryd.isAgg5 rfl (H.rd0 hb) (tab_get htab hi (by omega))) ?_
    refine s_val (r_conv Tryd.runUnderlying5 Tryd.runUnderlying3 rfl (w_i64 (by omega) (by omega))) ?_
    refine s_val (r_assign rfl) ?_
    refine c_nil (l' := [_, _, _, _, _, _, _, _, _, _, _, _, _, _]) rfl ?_
    refine wp_ret ?_
    refine e_ret (res1 rfl rfl) ⟨_, rfl, ?_⟩
    exact ⟨by simp only [tz, Int.toNat_natCast], H⟩

set_option maxHeartbeats 4000000 in
theorem put_spec (n : Int) (size : Nat) (_h0 : 0 ≤ n) (_h1 : n < 18446744073709551616) (hs : 1 ≤ size) (hs8 : size ≤ 8) (w0 : World) :
    Calls Tryd.prog 25 #[.int .u64 n, .int .i64 size] w0 fun e w => ∃ v, e = .returned v ∧ (∃ b, v = .slice (some ⟨b, 0, none⟩) size size ∧ St w0 [] w [(b, .cells (bC (putB n size)).toArray 5 (0, 0))]) := by
  have H := St.refl w0
  refine c_enter (args := [.int .u64 n, .int .i64 size]) (l := [.int .u64 n, .int .i64 size, undef, undef, undef, undef, undef, undef, undef, undef, undef, undef, undef, undef, undef, undef, undef, undef, undef, undef, undef, undef, undef, undef, undef, undef, undef, undef, undef, undef, undef, undef, undef, undef]) Tryd.func25 Tryd.ntmps25 rfl rfl ?_
  refine c_rseq (n := 34) ⟨rfl, rfl⟩ ?_
  refine s_val (r_assign rfl) ?_
  refine c_nil (l' := [_, _, _, _, _, _, _, _, _, _, _, _, _, _, _, _, _, _, _, _, _, _, _, _, _, _, _, _, _, _, _, _, _, _]) rfl ?_
  refine c_seq ?_
  refine c_rseq (n := 34) ⟨rfl, rfl⟩ ?_
  refine s_val (r_move rfl) ?_
  refine s_test (r_lss rfl rfl) (fun h8 => ?_) (fun h8 => ?_)
  · skip
    exfalso; omega
  · skip
    refine s_val (r_move rfl) ?_
    refine g_yes rfl rfl ?_
    refine s_val (r_move rfl) ?_
    refine g_yes rfl rfl ?_
    refine s_val (r_gtr rfl rfl) ?_
    refine s_val (r_pickf rfl rfl) ?_
    refine c_nil (l' := [_, _, _, _, _, _, _, _, _, _, _, _, _, _, _, _, _, _, _, _, _, _, _, _, _, _, _, _, _, _, _, _, _, _]) rfl ?_
    refine c_if rfl (fun h12 => ?_) (fun h12 => ?_)
    · skip
      exfalso; omega
    · skip
      refine wp_skip ?_
      refine x_thenNormal ?_
      refine c_rseq (n := 34) ⟨rfl, rfl⟩ ?_
      refine s_val (r_move rfl) ?_
      refine s_new (m_make (nb := 1) (v := .int .u8 0) H Tryd.underlying24 (by kernel_rfl) rfl rfl rfl rfl rfl (by omega) (by omega)) ?_
      intro w b H
      refine s_val (r_assign rfl) ?_
      refine c_nil (l' := [_, _, _, _, _, _, _, _, _, _, _, _, _, _, _, _, _, _, _, _, _, _, _, _, _, _, _, _, _, _, _, _, _, _]) rfl ?_
      refine c_seq ?_
      refine c_rseq (n := 34) ⟨rfl, rfl⟩ ?_
      refine s_val (r_move rfl) ?_
      refine s_val (r_lens Tryd.runUnderlying24 (ec rfl en)) ?_
      refine s_val (r_move rfl) ?_
      refine c_nil (l' := [_, _, _, _, _, _, _, _, _, _, _, _, _, _, _, _, _, _, _, _, _, _, _, _, _, _, _, _, _, _, _, _, _, _]) rfl ?_
      refine wp_block ?_
      refine c_loop (fun (l0 : List Value) (i : Nat) (l : List Value) (w : World) => ∃ (u6 u18 u19 u20 u21 u22 u23 u24 u25 u26 u27 u28 u29 u30 u31 u32 : Value) , l = ovr l0 [N_, N_, N_, N_, N_, N_, Y_ u6, N_, N_, N_, N_, N_, N_, N_, N_, N_, N_, Y_ (.int .i64 i), Y_ u18, Y_ u19, Y_ u20, Y_ u21, Y_ u22, Y_ u23, Y_ u24, Y_ u25, Y_ u26, Y_ u27, Y_ u28, Y_ u29, Y_ u30, Y_ u31, Y_ u32] ∧ i ≤ size ∧ St w0 [] w [(b, .cells (bC (mix (putB n size) (List.replicate size 0) i)).toArray 5 (0, 0))]) (fun (i : Nat) => size - i) 0 ⟨_, _, _, _, _, _, _, _, _, _, _, _, _, _, _, _, rfl, by omega, (by rw [mix_zero]; simpa [bC] using H)⟩ ?_
      intro i l w ⟨u6, u18, u19, u20, u21, u22, u23, u24, u25, u26, u27, u28, u29, u30, u31, u32, hl, hi, H⟩
      obtain rfl := hl.trans (rfl : _ = [_, _, _, _, _, _, _, _, _, _, _, _, _, _, _, _, _, _, _, _, _, _, _, _, _, _, _, _, _, _, _, _, _, _])
      clear hl
      refine c_rseq (n := 34) ⟨rfl, rfl⟩ ?_
      refine s_val (r_lss rfl rfl) ?_
      refine c_nil (l' := [_, _, _, _, _, _, _, _, _, _, _, _, _, _, _, _, _, _, _, _, _, _, _, _, _, _, _, _, _, _, _, _, _, _]) rfl ?_
      refine c_seq ?_
      refine c_if rfl (fun h18 => ?_) (fun h18 => ?_)
      · skip
        refine wp_skip ?_
        refine x_thenNormal ?_
        refine c_seq ?_
        refine wp_block ?_
        refine c_rseq (n := 34) ⟨rfl, rfl⟩ ?_
        refine s_val (r_move rfl) ?_
        refine s_val (r_assign rfl) ?_
        refine c_nil (l' := [_, _, _, _, _, _, _, _, _, _, _, _, _, _, _, _, _, _, _, _, _, _, _, _, _, _, _, _, _, _, _, _, _, _]) rfl ?_
        refine c_region (n := 34) ⟨rfl, rfl⟩ ?_
        refine s_val (r_move rfl) ?_
        refine s_val (r_move rfl) ?_
        refine s_val (r_move rfl) ?_
        refine s_val (r_move rfl) ?_
        refine s_val (r_sub rfl rfl (w_i64 (by omega) (by omega))) ?_
        refine s_val (r_move rfl) ?_
        refine s_val (r_sub rfl rfl (w_i64e (r := ((size - 1 - i : Nat) : Int)) (by omega) (by omega) (by omega))) ?_
        refine s_val (r_conv Tryd.runUnderlying3 Tryd.runUnderlying59 rfl (w_u64 (by omega) (by omega))) ?_
        refine s_val (r_mul rfl rfl (w_u64e (r := ((8 * (size - 1 - i) : Nat) : Int)) (by omega) (by omega) (by omega))) ?_
        refine s_val (r_shr rfl rfl (by omega) (shrN (by omega))) ?_
        refine s_val (r_conv Tryd.runUnderlying38 Tryd.runUnderlying5 rfl (w_u8' _)) ?_
        refine s_val (r_indexAddrS Tryd.runUnderlying24 Tryd.sizeOf5 rfl rfl (by omega) (by omega)) ?_
        refine s_st (m_store1 H 0 Tryd.sizeOf5 rfl rfl rfl rfl (by rw [bC_length, mix_length _ _ (by rw [putB_length, List.length_replicate]), List.length_replicate]; omega) (mix_set _ _ i (by rw [putB_length, List.length_replicate]) (by simp; omega) (by omega) (putB_get _ _ (by omega)).symm)) (L' := [_]) rfl ?_
        intro w H
        refine c_nil0 (l' := [_, _, _, _, _, _, _, _, _, _, _, _, _, _, _, _, _, _, _, _, _, _, _, _, _, _, _, _, _, _, _, _, _, _]) rfl ?_
        refine x_blockNormal ?_
        refine x_thenNormal ?_
        refine c_region (n := 34) ⟨rfl, rfl⟩ ?_
        refine s_val (r_add rfl rfl (w_i64 (by omega) (by omega))) ?_
        refine s_val (r_move rfl) ?_
        refine c_nil0 (l' := [_, _, _, _, _, _, _, _, _, _, _, _, _, _, _, _, _, _, _, _, _, _, _, _, _, _, _, _, _, _, _, _, _, _]) rfl ?_
        exact ⟨i + 1, _, rfl, ⟨_, _, _, _, _, _, _, _, _, _, _, _, _, _, _, _, rfl, by omega, H⟩, by omega⟩
      · skip
        obtain rfl : i = size := by omega
        rw [mix_all _ _ (putB_length _ _) (by simp)] at H
        refine wp_exit (x_thenExit (x_thenExit (x_blockHit ?_)))
        refine x_thenNormal ?_
        refine c_rseq (n := 34) ⟨rfl, rfl⟩ ?_
        refine s_val (r_move rfl) ?_
        refine s_val (r_assign rfl) ?_
        refine c_nil (l' := [_, _, _, _, _, _, _, _, _, _, _, _, _, _, _, _, _, _, _, _, _, _, _, _, _, _, _, _, _, _, _, _, _, _]) rfl ?_
        refine wp_ret ?_
        refine e_ret (res1 rfl rfl) ⟨_, rfl, ?_⟩
        exact ⟨_, rfl, H⟩

set_option maxHeartbeats 4000000 in
theorem get_spec (a : Option Addr) (cap : Nat) (bs : List UInt8) (h1 : 1 ≤ bs.length) (h8 : bs.length ≤ 8) (w0 : World) (hr : BRow w0 a bs) :
    Calls Tryd.prog 27 #[.slice a bs.length cap] w0 fun e w => ∃ v, e = .returned v ∧ (v = .tuple #[.int .u64 (getN bs), .bool true] ∧ St w0 [] w []) := by
  have H := St.refl w0
  refine c_enter (args := [.slice a bs.length cap]) (l := [.slice a bs.length cap, undef, undef, undef, undef, undef, undef, undef, undef, undef, undef, undef, undef, undef, undef, undef, undef, undef, undef, undef, undef, undef, undef, undef, undef, undef, undef, undef]) Tryd.func27 Tryd.ntmps27 rfl rfl ?_
  refine c_rseq (n := 28) ⟨rfl, rfl⟩ ?_
  refine s_val (r_assign rfl) ?_
  refine s_val (r_assign rfl) ?_
  refine c_nil (l' := [_, _, _, _, _, _, _, _, _, _, _, _, _, _, _, _, _, _, _, _, _, _, _, _, _, _, _, _]) rfl ?_
  refine c_seq ?_
  refine c_rseq (n := 28) ⟨rfl, rfl⟩ ?_
  refine s_val (r_move rfl) ?_
  refine s_val (r_lens Tryd.runUnderlying24 (ec rfl en)) ?_
  refine s_test (r_lss rfl rfl) (fun h9 => ?_) (fun h9 => ?_)
  · skip
    exfalso; omega
  · skip
    refine s_val (r_move rfl) ?_
    refine g_yes rfl rfl ?_
    refine s_val (r_move rfl) ?_
    refine g_yes rfl rfl ?_
    refine s_val (r_lens Tryd.runUnderlying24 (ec rfl en)) ?_
    refine g_yes rfl rfl ?_
    refine s_val (r_gtr rfl rfl) ?_
    refine s_val (r_pickf rfl rfl) ?_
    refine c_nil (l' := [_, _, _, _, _, _, _, _, _, _, _, _, _, _, _, _, _, _, _, _, _, _, _, _, _, _, _, _]) rfl ?_
    refine c_if rfl (fun h14 => ?_) (fun h14 => ?_)
    · skip
      exfalso; omega
    · skip
      refine wp_skip ?_
      refine x_thenNormal ?_
      refine c_rseq (n := 28) ⟨rfl, rfl⟩ ?_
      refine s_val (r_assign rfl) ?_
      refine c_nil (l' := [_, _, _, _, _, _, _, _, _, _, _, _, _, _, _, _, _, _, _, _, _, _, _, _, _, _, _, _]) rfl ?_
      refine c_seq ?_
      refine c_rseq (n := 28) ⟨rfl, rfl⟩ ?_
      refine s_val (r_move rfl) ?_
      refine s_val (r_lens Tryd.runUnderlying24 (ec rfl en)) ?_
      refine s_val (r_move rfl) ?_
      refine c_nil (l' := [_, _, _, _, _, _, _, _, _, _, _, _, _, _, _, _, _, _, _, _, _, _, _, _, _, _, _, _]) rfl ?_
      refine wp_block ?_
      refine c_loop (fun (l0 : List Value) (i : Nat) (l : List Value) (w : World) => ∃ (u6 u18 u19 u20 u21 u22 u23 u24 u25 u26 : Value) , l = ovr l0 [N_, N_, N_, N_, Y_ (.int .u64 (getN (bs.take i))), N_, Y_ u6, N_, N_, N_, N_, N_, N_, N_, N_, N_, N_, Y_ (.int .i64 i), Y_ u18, Y_ u19, Y_ u20, Y_ u21, Y_ u22, Y_ u23, Y_ u24, Y_ u25, Y_ u26] ∧ i ≤ bs.length ∧ St w0 [] w []) (fun (i : Nat) => bs.length - i) 0 ⟨_, _, _, _, _, _, _, _, _, _, rfl, by omega, H⟩ ?_
      intro i l w ⟨u6, u18, u19, u20, u21, u22, u23, u24, u25, u26, hl, hi, H⟩
      obtain rfl := hl.trans (rfl : _ = [_, _, _, _, _, _, _, _, _, _, _, _, _, _, _, _, _, _, _, _, _, _, _, _, _, _, _, _])
      clear hl
      refine c_rseq (n := 28) ⟨rfl, rfl⟩ ?_
      refine s_val (r_lss rfl rfl) ?_
      refine c_nil (l' := [_, _, _, _, _, _, _, _, _, _, _, _, _, _, _, _, _, _, _, _, _, _, _, _, _, _, _, _]) rfl ?_
      refine c_seq ?_
      refine c_if rfl (fun h18 => ?_) (fun h18 => ?_)
      · skip
        refine wp_skip ?_
        refine x_thenNormal ?_
        refine c_seq ?_
        refine wp_block ?_
        refine c_rseq (n := 28) ⟨rfl, rfl⟩ ?_
        obtain ⟨bb, off, pre, post, T, fz, rfl, hb, hp⟩ := hr (by omega)
        refine s_val (r_indexAddrS Tryd.runUnderlying24 Tryd.sizeOf5 rfl rfl (by omega) (by omega)) ?_
        refine s_val (r_load1 Tryd.isAgg5 rfl (H.rd0 hb) (bs_getE _ bs _ i hp (by omega) (by omega))) ?_
        refine s_val (r_assign rfl) ?_
        refine c_nil (l' := [_, _, _, _, _, _, _, _, _, _, _, _, _, _, _, _, _, _, _, _, _, _, _, _, _, _, _, _]) rfl ?_
        refine c_region (n := 28) ⟨rfl, rfl⟩ ?_
        refine s_val (r_move rfl) ?_
        have hgn := getN_lt bs (i := i) (by omega)
        refine s_val (r_shl rfl rfl (by omega) (shl8 (by omega) (by omega))) ?_
        refine s_val (r_move rfl) ?_
        refine s_val (r_conv Tryd.runUnderlying5 Tryd.runUnderlying38 rfl (w_u64 (by omega) (by have := (bs.getD i 0).toNat_lt; omega))) ?_
        refine s_val (r_or rfl rfl ((or_step (by omega) (by omega)).trans (getN_take (by omega)).symm)) ?_
        refine s_val (r_assign rfl) ?_
        refine c_nil0 (l' := [_, _, _, _, _, _, _, _, _, _, _, _, _, _, _, _, _, _, _, _, _, _, _, _, _, _, _, _]) rfl ?_
        refine x_blockNormal ?_
        refine x_thenNormal ?_
        refine c_region (n := 28) ⟨rfl, rfl⟩ ?_
        refine s_val (r_add rfl rfl (w_i64 (by omega) (by omega))) ?_
        refine s_val (r_move rfl) ?_
        refine c_nil0 (l' := [_, _, _, _, _, _, _, _, _, _, _, _, _, _, _, _, _, _, _, _, _, _, _, _, _, _, _, _]) rfl ?_
        exact ⟨i + 1, _, rfl, ⟨_, _, _, _, _, _, _, _, _, _, rfl, by omega, H⟩, by omega⟩
      · skip
        obtain rfl : i = bs.length := by omega
        refine wp_exit (x_thenExit (x_thenExit (x_blockHit ?_)))
        refine x_thenNormal ?_
        refine c_rseq (n := 28) ⟨rfl, rfl⟩ ?_
        refine s_val (r_move rfl) ?_
        refine s_val (r_assign rfl) ?_
        refine s_val (r_assign rfl) ?_
        refine c_nil (l' := [_, _, _, _, _, _, _, _, _, _, _, _, _, _, _, _, _, _, _, _, _, _, _, _, _, _, _, _]) rfl ?_
        refine wp_ret ?_
        refine e_ret (res2 rfl rfl rfl) ⟨_, rfl, ?_⟩
        exact ⟨by rw [List.take_length], H⟩

set_option maxHeartbeats 4000000 in
theorem may_spec (a : Option Addr) (cap : Nat) (xs : List Held) (hl : xs.length ≤ 4611686018427387904) (hx : ∀ i, i < xs.length → InR (nd xs i)) (w0 : World) (hr : HRow w0 a xs) (hT : TabH w0) :
    Calls Tryd.prog 24 #[.slice a xs.length cap] w0 fun e w => ∃ v, e = .returned v ∧ (v = .bool (decide (Valid xs)) ∧ St w0 [] w []) := by
  have H := St.refl w0
  refine c_enter (args := [.slice a xs.length cap]) (l := [.slice a xs.length cap, undef, undef, undef, undef, undef, undef, undef, undef, undef, undef, undef, undef, undef, undef, undef, undef, undef, undef, undef, undef, undef, undef, undef, undef, undef, undef, undef, undef, undef, undef, undef, undef, undef, undef, undef, undef, undef, undef, undef, undef, undef, undef, undef, undef, undef, undef, undef, undef]) Tryd.func24 Tryd.ntmps24 rfl rfl ?_
  refine c_rseq (n := 49) ⟨rfl, rfl⟩ ?_
  refine s_val (r_assign rfl) ?_
  refine c_nil (l' := [_, _, _, _, _, _, _, _, _, _, _, _, _, _, _, _, _, _, _, _, _, _, _, _, _, _, _, _, _, _, _, _, _, _, _, _, _, _, _, _, _, _, _, _, _, _, _, _, _]) rfl ?_
  refine c_rseq (n := 49) ⟨rfl, rfl⟩ ?_
  refine s_val (r_assign rfl) ?_
  refine c_nil (l' := [_, _, _, _, _, _, _, _, _, _, _, _, _, _, _, _, _, _, _, _, _, _, _, _, _, _, _, _, _, _, _, _, _, _, _, _, _, _, _, _, _, _, _, _, _, _, _, _, _]) rfl ?_
  refine c_seq ?_
  refine c_rseq (n := 49) ⟨rfl, rfl⟩ ?_
  refine s_val (r_move rfl) ?_
  refine s_val (r_lens Tryd.runUnderlying22 (ec rfl en)) ?_
  refine s_val (r_move rfl) ?_
  refine c_nil (l' := [_, _, _, _, _, _, _, _, _, _, _, _, _, _, _, _, _, _, _, _, _, _, _, _, _, _, _, _, _, _, _, _, _, _, _, _, _, _, _, _, _, _, _, _, _, _, _, _, _]) rfl ?_
  refine wp_block ?_
  refine c_loop (fun (l0 : List Value) (i : Nat) (l : List Value) (w : World) => ∃ (u2 u5 u6 u10 u11 u12 u13 u14 u15 u16 u17 u18 u19 u20 u21 u22 u23 u24 u25 u26 u27 u28 u29 u30 u31 u32 u33 u34 u35 u36 u37 u38 u39 u40 u41 u42 u43 u44 u45 u46 u47 u48 : Value) (e : Int), l = ovr l0 [N_, N_, Y_ u2, Y_ (.int .u64 e), N_, Y_ u5, Y_ u6, N_, N_, Y_ (.int .i64 i), Y_ u10, Y_ u11, Y_ u12, Y_ u13, Y_ u14, Y_ u15, Y_ u16, Y_ u17, Y_ u18, Y_ u19, Y_ u20, Y_ u21, Y_ u22, Y_ u23, Y_ u24, Y_ u25, Y_ u26, Y_ u27, Y_ u28, Y_ u29, Y_ u30, Y_ u31, Y_ u32, Y_ u33, Y_ u34, Y_ u35, Y_ u36, Y_ u37, Y_ u38, Y_ u39, Y_ u40, Y_ u41, Y_ u42, Y_ u43, Y_ u44, Y_ u45, Y_ u46, Y_ u47, Y_ u48] ∧ i ≤ xs.length ∧ (Valid xs ↔ okFrom e (xs.drop i)) ∧ 0 ≤ e ∧ e ≤ 18446744073709551615 ∧ St w0 [] w []) (fun (i : Nat) => xs.length - i) 0 ⟨_, _, _, _, _, _, _, _, _, _, _, _, _, _, _, _, _, _, _, _, _, _, _, _, _, _, _, _, _, _, _, _, _, _, _, _, _, _, _, _, _, _, _, rfl, by omega, by rw [List.drop_zero]; exact Iff.rfl, by omega, by omega, H⟩ ?_
  intro i l w ⟨u2, u5, u6, u10, u11, u12, u13, u14, u15, u16, u17, u18, u19, u20, u21, u22, u23, u24, u25, u26, u27, u28, u29, u30, u31, u32, u33, u34, u35, u36, u37, u38, u39, u40, u41, u42, u43, u44, u45, u46, u47, u48, e, hl, hi, hv, he0, he1, H⟩
  obtain rfl := hl.trans (rfl : _ = [_, _, _, _, _, _, _, _, _, _, _, _, _, _, _, _, _, _, _, _, _, _, _, _, _, _, _, _, _, _, _, _, _, _, _, _, _, _, _, _, _, _, _, _, _, _, _, _, _])
  clear hl
  refine c_rseq (n := 49) ⟨rfl, rfl⟩ ?_
  refine s_val (r_lss rfl rfl) ?_
  refine c_nil (l' := [_, _, _, _, _, _, _, _, _, _, _, _, _, _, _, _, _, _, _, _, _, _, _, _, _, _, _, _, _, _, _, _, _, _, _, _, _, _, _, _, _, _, _, _, _, _, _, _, _]) rfl ?_
  refine c_seq ?_
  refine c_if rfl (fun h10 => ?_) (fun h10 => ?_)
  · skip
    obtain ⟨bh, off, pre, post, T, fz, rfl, hb, hp⟩ := hr (by omega)
    obtain ⟨hd0, hd1, ha0, ha1⟩ := hx i (by omega)
    rw [okFrom_drop (by omega : i < xs.length)] at hv
    refine wp_skip ?_
    refine x_thenNormal ?_
    refine c_seq ?_
    refine wp_block ?_
    refine c_rseq (n := 49) ⟨rfl, rfl⟩ ?_
    refine s_val (r_indexAddrS Tryd.runUnderlying22 Tryd.sizeOf55 rfl rfl (by omega) (by omega)) ?_
    refine s_val (r_loadn Tryd.isAgg55 Tryd.sizeOf55 rfl (H.rd0 hb) (hs_tdn _ _ _ _ i hp (by omega)) (by first | exact (kC_length _) | exact (hC_length _) | exact rfl)) ?_
    refine s_new (m_alloc (cs := (hC Held.zero)) H Tryd.zeroValue55 rfl) ?_
    intro w b5 H
    refine s_st (m_storen H 0 34 Tryd.sizeOf55 rfl rfl (by first | exact (kC_length _) | exact (hC_length _)) (by first | exact (kC_one _) | exact (hC_one _)) rfl (by first | exact (by rw [kC_length]; omega) | exact (by rw [hC_length]; omega)) (by first | exact (kC_sp _ _) | exact (hC_sp _ _))) (L' := [_]) rfl ?_
    intro w H
    refine c_nil (l' := [_, _, _, _, _, _, _, _, _, _, _, _, _, _, _, _, _, _, _, _, _, _, _, _, _, _, _, _, _, _, _, _, _, _, _, _, _, _, _, _, _, _, _, _, _, _, _, _, _]) rfl ?_
    refine c_seq ?_
    refine c_rseq (n := 49) ⟨rfl, rfl⟩ ?_
    refine s_val (r_fieldAddr (k := 0) Tryd.runUnderlying55 rfl Tryd.sizeOf3 (by decide) rfl rfl) ?_
    refine s_val (r_load1 Tryd.isAgg3 rfl (H.at 0 rfl) (by first | exact rfl | exact (hC_0 _) | exact (hC_00 _) | exact (hC_1 _))) ?_
    refine s_test (r_lss rfl rfl) (fun h15 => ?_) (fun h15 => ?_)
    · skip
      refine s_val (r_move rfl) ?_
      refine g_no rfl rfl (by decide) ?_
      refine g_no rfl rfl (by decide) ?_
      refine g_no rfl rfl (by decide) ?_
      refine s_val (r_pickt rfl rfl) ?_
      refine c_nil (l' := [_, _, _, _, _, _, _, _, _, _, _, _, _, _, _, _, _, _, _, _, _, _, _, _, _, _, _, _, _, _, _, _, _, _, _, _, _, _, _, _, _, _, _, _, _, _, _, _, _]) rfl ?_
      refine c_ift rfl ?_
      refine c_rseq (n := 49) ⟨rfl, rfl⟩ ?_
      refine s_val (r_assign rfl) ?_
      refine c_nil (l' := [_, _, _, _, _, _, _, _, _, _, _, _, _, _, _, _, _, _, _, _, _, _, _, _, _, _, _, _, _, _, _, _, _, _, _, _, _, _, _, _, _, _, _, _, _, _, _, _, _]) rfl ?_
      refine wp_ret (x_thenRet (x_blockRet (x_thenRet (x_thenRet (x_blockRet (x_thenRet ?_))))))
      replace H := H.sub (.cons _ .slnil)
      refine e_ret (res1 rfl rfl) ⟨_, rfl, ?_⟩
      exact ⟨by rw [decide_eq_false (fun hV => by have h := (hv.1 hV).1.1; omega)], H⟩
    · skip
      refine s_val (r_move rfl) ?_
      refine g_yes rfl rfl ?_
      refine s_val (r_fieldAddr (k := 0) Tryd.runUnderlying55 rfl Tryd.sizeOf3 (by decide) rfl rfl) ?_
      refine g_yes rfl rfl ?_
      refine s_val (r_load1 Tryd.isAgg3 rfl (H.at 0 rfl) (by first | exact rfl | exact (hC_0 _) | exact (hC_00 _) | exact (hC_1 _))) ?_
      refine g_yes rfl rfl ?_
      refine s_val (r_gtr rfl rfl) ?_
      refine s_val (r_pickf rfl rfl) ?_
      refine c_nil (l' := [_, _, _, _, _, _, _, _, _, _, _, _, _, _, _, _, _, _, _, _, _, _, _, _, _, _, _, _, _, _, _, _, _, _, _, _, _, _, _, _, _, _, _, _, _, _, _, _, _]) rfl ?_
      refine c_if rfl (fun h20 => ?_) (fun h20 => ?_)
      · skip
        refine c_rseq (n := 49) ⟨rfl, rfl⟩ ?_
        refine s_val (r_assign rfl) ?_
        refine c_nil (l' := [_, _, _, _, _, _, _, _, _, _, _, _, _, _, _, _, _, _, _, _, _, _, _, _, _, _, _, _, _, _, _, _, _, _, _, _, _, _, _, _, _, _, _, _, _, _, _, _, _]) rfl ?_
        refine wp_ret (x_thenRet (x_blockRet (x_thenRet (x_thenRet (x_blockRet (x_thenRet ?_))))))
        replace H := H.sub (.cons _ .slnil)
        refine e_ret (res1 rfl rfl) ⟨_, rfl, ?_⟩
        exact ⟨by rw [decide_eq_false (fun hV => by have h := (hv.1 hV).1.2.1; omega)], H⟩
      · skip
        have hmp := many_pos (nd xs i).depth
        have hml := many_le (n := (nd xs i).depth) (by omega)
        have hor := orI_lt (n := (nd xs i).at_) (m := many (nd xs i).depth) (by omega) (by omega) (by omega) (by omega)
        have htz := tz_or (n := (nd xs i).at_) (d := (nd xs i).depth) (by omega) (by omega) (by omega) (by omega)
        refine wp_skip ?_
        refine x_thenNormal ?_
        refine c_rseq (n := 49) ⟨rfl, rfl⟩ ?_
        refine s_val (r_fieldAddr (k := 0) Tryd.runUnderlying55 rfl Tryd.sizeOf3 (by decide) rfl rfl) ?_
        refine s_val (r_load1 Tryd.isAgg3 rfl (H.at 0 rfl) (by first | exact rfl | exact (hC_0 _) | exact (hC_00 _) | exact (hC_1 _))) ?_
        refine s_val (r_sub rfl rfl (w_i64 (by omega) (by omega))) ?_
        refine s_val (r_shl rfl rfl (by omega) (many_eq (by omega))) ?_
        refine s_val (r_assign rfl) ?_
        refine c_nil (l' := [_, _, _, _, _, _, _, _, _, _, _, _, _, _, _, _, _, _, _, _, _, _, _, _, _, _, _, _, _, _, _, _, _, _, _, _, _, _, _, _, _, _, _, _, _, _, _, _, _]) rfl ?_
        refine c_seq ?_
        refine c_rseq (n := 49) ⟨rfl, rfl⟩ ?_
        refine s_val (r_fieldAddr (k := 1) Tryd.runUnderlying55 rfl Tryd.sizeOf38 (by decide) rfl rfl) ?_
        refine s_val (r_load1 Tryd.isAgg38 rfl (H.at 0 rfl) (by first | exact rfl | exact (hC_0 _) | exact (hC_00 _) | exact (hC_1 _))) ?_
        refine s_val (r_move rfl) ?_
        refine s_val (r_or rfl rfl (or_u64i (by omega) (by omega) (by omega) (by omega))) ?_
        refine s_call (r_call Tryd.call40 (ec rfl en)) (tz_spec _ (by omega) (by omega) _ (hT.st H)) ?_
        rintro v w ⟨rfl, HC⟩
        replace H := H.quiet HC
        refine s_val (r_move rfl) ?_
        refine s_call (r_call Tryd.call40 (ec rfl en)) (tz_spec _ (by omega) (by omega) _ (hT.st H)) ?_
        rintro v w ⟨rfl, HC⟩
        replace H := H.quiet HC
        refine s_test (r_neq rfl rfl) (fun h32 => ?_) (fun h32 => ?_)
        · skip
          refine s_val (r_move rfl) ?_
          refine g_no rfl rfl (by decide) ?_
          refine g_no rfl rfl (by decide) ?_
          refine g_no rfl rfl (by decide) ?_
          refine s_val (r_pickt rfl rfl) ?_
          refine s_val (r_move rfl) ?_
          refine g_no rfl rfl (by decide) ?_
          refine g_no rfl rfl (by decide) ?_
          refine g_no rfl rfl (by decide) ?_
          refine g_no rfl rfl (by decide) ?_
          refine s_val (r_pickt rfl rfl) ?_
          refine c_nil (l' := [_, _, _, _, _, _, _, _, _, _, _, _, _, _, _, _, _, _, _, _, _, _, _, _, _, _, _, _, _, _, _, _, _, _, _, _, _, _, _, _, _, _, _, _, _, _, _, _, _]) rfl ?_
          refine c_ift rfl ?_
          refine c_rseq (n := 49) ⟨rfl, rfl⟩ ?_
          refine s_val (r_assign rfl) ?_
          refine c_nil (l' := [_, _, _, _, _, _, _, _, _, _, _, _, _, _, _, _, _, _, _, _, _, _, _, _, _, _, _, _, _, _, _, _, _, _, _, _, _, _, _, _, _, _, _, _, _, _, _, _, _]) rfl ?_
          refine wp_ret (x_thenRet (x_blockRet (x_thenRet (x_thenRet (x_blockRet (x_thenRet ?_))))))
          replace H := H.sub (.cons _ .slnil)
          refine e_ret (res1 rfl rfl) ⟨_, rfl, ?_⟩
          exact ⟨by rw [decide_eq_false (fun hV => h32 (htz.2 (hv.1 hV).1.2.2.2.1))], H⟩
        · skip
          refine s_val (r_move rfl) ?_
          refine g_yes rfl rfl ?_
          refine s_val (r_fieldAddr (k := 1) Tryd.runUnderlying55 rfl Tryd.sizeOf38 (by decide) rfl rfl) ?_
          refine g_yes rfl rfl ?_
          refine s_val (r_load1 Tryd.isAgg38 rfl (H.at 0 rfl) (by first | exact rfl | exact (hC_0 _) | exact (hC_00 _) | exact (hC_1 _))) ?_
          refine g_yes rfl rfl ?_
          refine s_test (r_geq rfl rfl) (fun h36 => ?_) (fun h36 => ?_)
          · skip
            refine s_val (r_pickf rfl rfl) ?_
            refine s_val (r_move rfl) ?_
            refine g_no rfl rfl (by decide) ?_
            refine g_no rfl rfl (by decide) ?_
            refine g_no rfl rfl (by decide) ?_
            refine g_no rfl rfl (by decide) ?_
            refine s_val (r_pickt rfl rfl) ?_
            refine c_nil (l' := [_, _, _, _, _, _, _, _, _, _, _, _, _, _, _, _, _, _, _, _, _, _, _, _, _, _, _, _, _, _, _, _, _, _, _, _, _, _, _, _, _, _, _, _, _, _, _, _, _]) rfl ?_
            refine c_ift rfl ?_
            refine c_rseq (n := 49) ⟨rfl, rfl⟩ ?_
            refine s_val (r_assign rfl) ?_
            refine c_nil (l' := [_, _, _, _, _, _, _, _, _, _, _, _, _, _, _, _, _, _, _, _, _, _, _, _, _, _, _, _, _, _, _, _, _, _, _, _, _, _, _, _, _, _, _, _, _, _, _, _, _]) rfl ?_
            refine wp_ret (x_thenRet (x_blockRet (x_thenRet (x_thenRet (x_blockRet (x_thenRet ?_))))))
            replace H := H.sub (.cons _ .slnil)
            refine e_ret (res1 rfl rfl) ⟨_, rfl, ?_⟩
            exact ⟨by rw [decide_eq_false (fun hV => by have h := (hv.1 hV).1.2.2.2.2; omega)], H⟩
          · skip
            refine s_val (r_pickf rfl rfl) ?_
            refine s_val (r_move rfl) ?_
            refine g_yes rfl rfl ?_
            refine s_val (r_fieldAddr (k := 1) Tryd.runUnderlying55 rfl Tryd.sizeOf38 (by decide) rfl rfl) ?_
            refine g_yes rfl rfl ?_
            refine s_val (r_load1 Tryd.isAgg38 rfl (H.at 0 rfl) (by first | exact rfl | exact (hC_0 _) | exact (hC_00 _) | exact (hC_1 _))) ?_
            refine g_yes rfl rfl ?_
            refine s_val (r_move rfl) ?_
            refine g_yes rfl rfl ?_
            refine s_val (r_lss rfl rfl) ?_
            refine s_val (r_pickf rfl rfl) ?_
            refine c_nil (l' := [_, _, _, _, _, _, _, _, _, _, _, _, _, _, _, _, _, _, _, _, _, _, _, _, _, _, _, _, _, _, _, _, _, _, _, _, _, _, _, _, _, _, _, _, _, _, _, _, _]) rfl ?_
            refine c_if rfl (fun h43 => ?_) (fun h43 => ?_)
            · skip
              refine c_rseq (n := 49) ⟨rfl, rfl⟩ ?_
              refine s_val (r_assign rfl) ?_
              refine c_nil (l' := [_, _, _, _, _, _, _, _, _, _, _, _, _, _, _, _, _, _, _, _, _, _, _, _, _, _, _, _, _, _, _, _, _, _, _, _, _, _, _, _, _, _, _, _, _, _, _, _, _]) rfl ?_
              refine wp_ret (x_thenRet (x_blockRet (x_thenRet (x_thenRet (x_blockRet (x_thenRet ?_))))))
              replace H := H.sub (.cons _ .slnil)
              refine e_ret (res1 rfl rfl) ⟨_, rfl, ?_⟩
              exact ⟨by rw [decide_eq_false (fun hV => by have h := (hv.1 hV).2.1; omega)], H⟩
            · skip
              have hok : okN (nd xs i) := ⟨by omega, by omega, by omega, htz.1 (by omega), by omega⟩
              refine wp_skip ?_
              refine x_thenNormal ?_
              refine c_region (n := 49) ⟨rfl, rfl⟩ ?_
              refine s_val (r_fieldAddr (k := 1) Tryd.runUnderlying55 rfl Tryd.sizeOf38 (by decide) rfl rfl) ?_
              refine s_val (r_load1 Tryd.isAgg38 rfl (H.at 0 rfl) (by first | exact rfl | exact (hC_0 _) | exact (hC_00 _) | exact (hC_1 _))) ?_
              refine s_val (r_move rfl) ?_
              refine s_val (r_add rfl rfl (w_u64 (by omega) (by omega))) ?_
              refine s_val (r_assign rfl) ?_
              refine c_nil0 (l' := [_, _, _, _, _, _, _, _, _, _, _, _, _, _, _, _, _, _, _, _, _, _, _, _, _, _, _, _, _, _, _, _, _, _, _, _, _, _, _, _, _, _, _, _, _, _, _, _, _]) rfl ?_
              refine x_blockNormal ?_
              refine x_thenNormal ?_
              refine c_region (n := 49) ⟨rfl, rfl⟩ ?_
              refine s_val (r_add rfl rfl (w_i64 (by omega) (by omega))) ?_
              refine s_val (r_move rfl) ?_
              refine c_nil0 (l' := [_, _, _, _, _, _, _, _, _, _, _, _, _, _, _, _, _, _, _, _, _, _, _, _, _, _, _, _, _, _, _, _, _, _, _, _, _, _, _, _, _, _, _, _, _, _, _, _, _]) rfl ?_
              replace H := H.sub (.cons _ .slnil)
              exact ⟨i + 1, _, rfl, ⟨_, _, _, _, _, _, _, _, _, _, _, _, _, _, _, _, _, _, _, _, _, _, _, _, _, _, _, _, _, _, _, _, _, _, _, _, _, _, _, _, _, _, _, rfl, by omega, hv.trans ⟨fun h => h.2.2, fun h => ⟨hok, by omega, h⟩⟩, by omega, by omega, H⟩, by omega⟩
  · skip
    refine wp_exit (x_thenExit (x_thenExit (x_blockHit ?_)))
    refine x_thenNormal ?_
    refine c_rseq (n := 49) ⟨rfl, rfl⟩ ?_
    refine s_val (r_assign rfl) ?_
    refine c_nil (l' := [_, _, _, _, _, _, _, _, _, _, _, _, _, _, _, _, _, _, _, _, _, _, _, _, _, _, _, _, _, _, _, _, _, _, _, _, _, _, _, _, _, _, _, _, _, _, _, _, _]) rfl ?_
    refine wp_ret ?_
    refine e_ret (res1 rfl rfl) ⟨_, rfl, ?_⟩
    exact ⟨by rw [decide_eq_true (hv.2 (okFrom_end (by omega)))], H⟩

set_option maxHeartbeats 4000000 in
theorem rmay_spec (a : Option Addr) (cap : Nat) (xs : List Held) (hl : xs.length ≤ 4611686018427387904) (hx : ∀ i, i < xs.length → InR (nd xs i)) (w0 : World) (hr : HRow w0 a xs) :
    Calls Tryd.prog 26 #[.slice a xs.length cap] w0 fun e w => ∃ v, e = .returned v ∧ (v = .bool (decide (Valid xs)) ∧ St w0 [] w []) := by
  have H := St.refl w0
  refine c_enter (args := [.slice a xs.length cap]) (l := [.slice a xs.length cap, undef, undef, undef, undef, undef, undef, undef, undef, undef, undef, undef, undef, undef, undef, undef, undef, undef, undef, undef, undef, undef, undef, undef, undef, undef, undef, undef, undef, undef, undef, undef, undef, undef, undef, undef, undef, undef, undef, undef, undef, undef, undef, undef, undef, undef, undef, undef, undef, undef, undef, undef, undef, undef, undef, undef, undef, undef, undef, undef, undef, undef, undef, undef, undef]) Tryd.func26 Tryd.ntmps26 rfl rfl ?_
  refine c_rseq (n := 65) ⟨rfl, rfl⟩ ?_
  refine s_val (r_assign rfl) ?_
  refine c_nil (l' := [_, _, _, _, _, _, _, _, _, _, _, _, _, _, _, _, _, _, _, _, _, _, _, _, _, _, _, _, _, _, _, _, _, _, _, _, _, _, _, _, _, _, _, _, _, _, _, _, _, _, _, _, _, _, _, _, _, _, _, _, _, _, _, _, _]) rfl ?_
  refine c_rseq (n := 65) ⟨rfl, rfl⟩ ?_
  refine s_val (r_assign rfl) ?_
  refine c_nil (l' := [_, _, _, _, _, _, _, _, _, _, _, _, _, _, _, _, _, _, _, _, _, _, _, _, _, _, _, _, _, _, _, _, _, _, _, _, _, _, _, _, _, _, _, _, _, _, _, _, _, _, _, _, _, _, _, _, _, _, _, _, _, _, _, _, _]) rfl ?_
  refine c_seq ?_
  refine c_rseq (n := 65) ⟨rfl, rfl⟩ ?_
  refine s_val (r_assign rfl) ?_
  refine c_nil (l' := [_, _, _, _, _, _, _, _, _, _, _, _, _, _, _, _, _, _, _, _, _, _, _, _, _, _, _, _, _, _, _, _, _, _, _, _, _, _, _, _, _, _, _, _, _, _, _, _, _, _, _, _, _, _, _, _, _, _, _, _, _, _, _, _, _]) rfl ?_
  refine wp_block ?_
  refine c_loop (fun (l0 : List Value) (i : Nat) (l : List Value) (w : World) => ∃ (u2 u5 u6 u7 u8 u9 u10 u11 u12 u13 u14 u15 u16 u17 u18 u19 u20 u21 u22 u23 u24 u25 u26 u27 u28 u29 u30 u31 u32 u33 u34 u35 u36 u37 u38 u39 u40 u41 u42 u43 u44 u45 u46 u47 u48 u49 u50 u51 u52 u53 u54 u55 u56 u57 u58 u59 u60 u61 u62 u63 u64 : Value) (e : Int), l = ovr l0 [N_, N_, Y_ u2, Y_ (.int .u64 e), Y_ (.int .i64 i), Y_ u5, Y_ u6, Y_ u7, Y_ u8, Y_ u9, Y_ u10, Y_ u11, Y_ u12, Y_ u13, Y_ u14, Y_ u15, Y_ u16, Y_ u17, Y_ u18, Y_ u19, Y_ u20, Y_ u21, Y_ u22, Y_ u23, Y_ u24, Y_ u25, Y_ u26, Y_ u27, Y_ u28, Y_ u29, Y_ u30, Y_ u31, Y_ u32, Y_ u33, Y_ u34, Y_ u35, Y_ u36, Y_ u37, Y_ u38, Y_ u39, Y_ u40, Y_ u41, Y_ u42, Y_ u43, Y_ u44, Y_ u45, Y_ u46, Y_ u47, Y_ u48, Y_ u49, Y_ u50, Y_ u51, Y_ u52, Y_ u53, Y_ u54, Y_ u55, Y_ u56, Y_ u57, Y_ u58, Y_ u59, Y_ u60, Y_ u61, Y_ u62, Y_ u63, Y_ u64] ∧ i ≤ xs.length ∧ (Valid xs ↔ okFrom e (xs.drop i)) ∧ 0 ≤ e ∧ e ≤ 18446744073709551615 ∧ St w0 [] w []) (fun (i : Nat) => xs.length - i) 0 ⟨_, _, _, _, _, _, _, _, _, _, _, _, _, _, _, _, _, _, _, _, _, _, _, _, _, _, _, _, _, _, _, _, _, _, _, _, _, _, _, _, _, _, _, _, _, _, _, _, _, _, _, _, _, _, _, _, _, _, _, _, _, _, rfl, by omega, by rw [List.drop_zero]; exact Iff.rfl, by omega, by omega, H⟩ ?_
  intro i l w ⟨u2, u5, u6, u7, u8, u9, u10, u11, u12, u13, u14, u15, u16, u17, u18, u19, u20, u21, u22, u23, u24, u25, u26, u27, u28, u29, u30, u31, u32, u33, u34, u35, u36, u37, u38, u39, u40, u41, u42, u43, u44, u45, u46, u47, u48, u49, u50, u51, u52, u53, u54, u55, u56, u57, u58, u59, u60, u61, u62, u63, u64, e, hl, hi, hv, he0, he1, H⟩
  obtain rfl := hl.trans (rfl : _ = [_, _, _, _, _, _, _, _, _, _, _, _, _, _, _, _, _, _, _, _, _, _, _, _, _, _, _, _, _, _, _, _, _, _, _, _, _, _, _, _, _, _, _, _, _, _, _, _, _, _, _, _, _, _, _, _, _, _, _, _, _, _, _, _, _])
  clear hl
  refine c_seq ?_
  refine c_rseq (n := 65) ⟨rfl, rfl⟩ ?_
  refine s_val (r_move rfl) ?_
  refine s_val (r_move rfl) ?_
  refine s_val (r_lens Tryd.runUnderlying30 (ec rfl en)) ?_
  refine s_val (r_lss rfl rfl) ?_
  refine c_nil (l' := [_, _, _, _, _, _, _, _, _, _, _, _, _, _, _, _, _, _, _, _, _, _, _, _, _, _, _, _, _, _, _, _, _, _, _, _, _, _, _, _, _, _, _, _, _, _, _, _, _, _, _, _, _, _, _, _, _, _, _, _, _, _, _, _, _]) rfl ?_
  refine c_if rfl (fun h9 => ?_) (fun h9 => ?_)
  · skip
    obtain ⟨bh, off, pre, post, T, fz, rfl, hb, hp⟩ := hr (by omega)
    obtain ⟨hd0, hd1, ha0, ha1⟩ := hx i (by omega)
    rw [okFrom_drop (by omega : i < xs.length)] at hv
    refine wp_skip ?_
    refine x_thenNormal ?_
    refine c_seq ?_
    refine wp_block ?_
    refine c_seq ?_
    refine c_rseq (n := 65) ⟨rfl, rfl⟩ ?_
    refine s_val (r_move rfl) ?_
    refine s_val (r_move rfl) ?_
    refine s_val (r_indexAddrS Tryd.runUnderlying30 Tryd.sizeOf41 rfl rfl (by omega) (by omega)) ?_
    refine s_val (r_fieldAddr (k := 0) Tryd.runUnderlying41 rfl Tryd.sizeOf3 (by decide) rfl rfl) ?_
    refine s_val (r_load1 Tryd.isAgg3 rfl (H.rd0 hb) (hs_depth _ _ _ _ i hp (by omega))) ?_
    refine s_test (r_lss rfl rfl) (fun h17 => ?_) (fun h17 => ?_)
    · skip
      refine s_val (r_move rfl) ?_
      refine g_no rfl rfl (by decide) ?_
      refine g_no rfl rfl (by decide) ?_
      refine g_no rfl rfl (by decide) ?_
      refine g_no rfl rfl (by decide) ?_
      refine g_no rfl rfl (by decide) ?_
      refine g_no rfl rfl (by decide) ?_
      refine s_val (r_pickt rfl rfl) ?_
      refine c_nil (l' := [_, _, _, _, _, _, _, _, _, _, _, _, _, _, _, _, _, _, _, _, _, _, _, _, _, _, _, _, _, _, _, _, _, _, _, _, _, _, _, _, _, _, _, _, _, _, _, _, _, _, _, _, _, _, _, _, _, _, _, _, _, _, _, _, _]) rfl ?_
      refine c_ift rfl ?_
      refine c_rseq (n := 65) ⟨rfl, rfl⟩ ?_
      refine s_val (r_assign rfl) ?_
      refine c_nil (l' := [_, _, _, _, _, _, _, _, _, _, _, _, _, _, _, _, _, _, _, _, _, _, _, _, _, _, _, _, _, _, _, _, _, _, _, _, _, _, _, _, _, _, _, _, _, _, _, _, _, _, _, _, _, _, _, _, _, _, _, _, _, _, _, _, _]) rfl ?_
      refine wp_ret (x_thenRet (x_blockRet (x_thenRet (x_thenRet (x_blockRet (x_thenRet ?_))))))
      refine e_ret (res1 rfl rfl) ⟨_, rfl, ?_⟩
      exact ⟨by rw [decide_eq_false (fun hV => by have h := (hv.1 hV).1.1; omega)], H⟩
    · skip
      refine s_val (r_move rfl) ?_
      refine g_yes rfl rfl ?_
      refine s_val (r_move rfl) ?_
      refine g_yes rfl rfl ?_
      refine s_val (r_move rfl) ?_
      refine g_yes rfl rfl ?_
      refine s_val (r_indexAddrS Tryd.runUnderlying30 Tryd.sizeOf41 rfl rfl (by omega) (by omega)) ?_
      refine g_yes rfl rfl ?_
      refine s_val (r_fieldAddr (k := 0) Tryd.runUnderlying41 rfl Tryd.sizeOf3 (by decide) rfl rfl) ?_
      refine g_yes rfl rfl ?_
      refine s_val (r_load1 Tryd.isAgg3 rfl (H.rd0 hb) (hs_depth _ _ _ _ i hp (by omega))) ?_
      refine g_yes rfl rfl ?_
      refine s_val (r_gtr rfl rfl) ?_
      refine s_val (r_pickf rfl rfl) ?_
      refine c_nil (l' := [_, _, _, _, _, _, _, _, _, _, _, _, _, _, _, _, _, _, _, _, _, _, _, _, _, _, _, _, _, _, _, _, _, _, _, _, _, _, _, _, _, _, _, _, _, _, _, _, _, _, _, _, _, _, _, _, _, _, _, _, _, _, _, _, _]) rfl ?_
      refine c_if rfl (fun h25 => ?_) (fun h25 => ?_)
      · skip
        refine c_rseq (n := 65) ⟨rfl, rfl⟩ ?_
        refine s_val (r_assign rfl) ?_
        refine c_nil (l' := [_, _, _, _, _, _, _, _, _, _, _, _, _, _, _, _, _, _, _, _, _, _, _, _, _, _, _, _, _, _, _, _, _, _, _, _, _, _, _, _, _, _, _, _, _, _, _, _, _, _, _, _, _, _, _, _, _, _, _, _, _, _, _, _, _]) rfl ?_
        refine wp_ret (x_thenRet (x_blockRet (x_thenRet (x_thenRet (x_blockRet (x_thenRet ?_))))))
        refine e_ret (res1 rfl rfl) ⟨_, rfl, ?_⟩
        exact ⟨by rw [decide_eq_false (fun hV => by have h := (hv.1 hV).1.2.1; omega)], H⟩
      · skip
        have hmp := many_pos (nd xs i).depth
        have hml := many_le (n := (nd xs i).depth) (by omega)
        have hmz := many_zero
        refine wp_skip ?_
        refine x_thenNormal ?_
        refine c_rseq (n := 65) ⟨rfl, rfl⟩ ?_
        refine s_val (r_move rfl) ?_
        refine s_val (r_move rfl) ?_
        refine s_val (r_indexAddrS Tryd.runUnderlying30 Tryd.sizeOf41 rfl rfl (by omega) (by omega)) ?_
        refine s_val (r_fieldAddr (k := 0) Tryd.runUnderlying41 rfl Tryd.sizeOf3 (by decide) rfl rfl) ?_
        refine s_val (r_load1 Tryd.isAgg3 rfl (H.rd0 hb) (hs_depth _ _ _ _ i hp (by omega))) ?_
        refine s_call (r_call Tryd.call41 (ec rfl en)) (rmany_spec _ (by omega) (by omega) _) ?_
        rintro v w ⟨rfl, HC⟩
        replace H := H.quiet HC
        refine s_val (r_assign rfl) ?_
        refine c_nil (l' := [_, _, _, _, _, _, _, _, _, _, _, _, _, _, _, _, _, _, _, _, _, _, _, _, _, _, _, _, _, _, _, _, _, _, _, _, _, _, _, _, _, _, _, _, _, _, _, _, _, _, _, _, _, _, _, _, _, _, _, _, _, _, _, _, _]) rfl ?_
        refine c_seq ?_
        refine c_seq ?_
        refine d_begin (sz := 65) ⟨rfl, rfl⟩ (by kernel_rfl) H (H) rfl ?_
        intro w H
        refine d_take (i := 0) rfl (by kernel_rfl) (fun _ _ _ h => h) H (fun _ _ => r_move rfl) rfl ?_
        refine d_take (i := 1) rfl (by kernel_rfl) (fun _ _ _ h => h) H (fun _ _ => r_move rfl) rfl ?_
        refine d_take (i := 2) rfl (by kernel_rfl) (fun _ _ _ h => h) H (fun _ _ => r_indexAddrS Tryd.runUnderlying30 Tryd.sizeOf41 rfl rfl (by omega) (by omega)) rfl ?_
        refine d_take (i := 3) rfl (by kernel_rfl) (fun _ _ _ h => h) H (fun _ _ => r_fieldAddr (k := 1) Tryd.runUnderlying41 rfl Tryd.sizeOf38 (by decide) rfl rfl) rfl ?_
        refine d_take (i := 4) rfl (by kernel_rfl) (fun _ _ _ h => h) H (fun _ HS => r_load1 Tryd.isAgg38 rfl (HS.rd0 hb) (hs_at _ _ _ _ i hp (by omega))) rfl ?_
        refine d_take (i := 5) rfl (by kernel_rfl) (fun _ _ _ h => h) H (fun _ _ => r_move rfl) rfl ?_
        refine d_take (i := 6) rfl (by kernel_rfl) (fun _ _ _ h => h) H (fun _ _ => r_rem rfl rfl (by omega) (Int.tmod_eq_emod_of_nonneg (by omega))) rfl ?_
        refine d_take (i := 7) rfl (by kernel_rfl) (fun _ _ _ h => h) H (fun _ _ => r_neq rfl rfl) rfl ?_
        refine d_part (fun h39 => ?_) (fun h39 => ?_)
        · skip
          refine d_take (i := 8) rfl (by kernel_rfl) (fun _ _ _ h => h) H (fun _ _ => r_move rfl) rfl ?_
          refine d_takeN (i := 9) rfl (by kernel_rfl) (fun _ _ _ h => h) rfl rfl (by decide) H rfl ?_
          refine d_takeN (i := 10) rfl (by kernel_rfl) (fun _ _ _ h => h) rfl rfl (by decide) H rfl ?_
          refine d_takeN (i := 11) rfl (by kernel_rfl) (fun _ _ _ h => h) rfl rfl (by decide) H rfl ?_
          refine d_takeN (i := 12) rfl (by kernel_rfl) (fun _ _ _ h => h) rfl rfl (by decide) H rfl ?_
          refine d_takeN (i := 13) rfl (by kernel_rfl) (fun _ _ _ h => h) rfl rfl (by decide) H rfl ?_
          refine d_takeN (i := 14) rfl (by kernel_rfl) (fun _ _ _ h => h) rfl rfl (by decide) H rfl ?_
          refine d_takeN (i := 15) rfl (by kernel_rfl) (fun _ _ _ h => h) rfl rfl (by decide) H rfl ?_
          refine d_take (i := 16) rfl (by kernel_rfl) (fun _ _ _ h => h) H (fun _ _ => r_pickt rfl rfl) rfl ?_
          refine d_take (i := 17) rfl (by kernel_rfl) (fun _ _ _ h => h) H (fun _ _ => r_move rfl) rfl ?_
          refine d_takeN (i := 18) rfl (by kernel_rfl) (fun _ _ _ h => h) rfl rfl (by decide) H rfl ?_
          refine d_takeN (i := 19) rfl (by kernel_rfl) (fun _ _ _ h => h) rfl rfl (by decide) H rfl ?_
          refine d_takeN (i := 20) rfl (by kernel_rfl) (fun _ _ _ h => h) rfl rfl (by decide) H rfl ?_
          refine d_takeN (i := 21) rfl (by kernel_rfl) (fun _ _ _ h => h) rfl rfl (by decide) H rfl ?_
          refine d_takeN (i := 22) rfl (by kernel_rfl) (fun _ _ _ h => h) rfl rfl (by decide) H rfl ?_
          refine d_takeN (i := 23) rfl (by kernel_rfl) (fun _ _ _ h => h) rfl rfl (by decide) H rfl ?_
          refine d_takeN (i := 24) rfl (by kernel_rfl) (fun _ _ _ h => h) rfl rfl (by decide) H rfl ?_
          refine d_take (i := 25) rfl (by kernel_rfl) (fun _ _ _ h => h) H (fun _ _ => r_pickt rfl rfl) rfl ?_
          refine d_done (l' := [_, _, _, _, _, _, _, _, _, _, _, _, _, _, _, _, _, _, _, _, _, _, _, _, _, _, _, _, _, _, _, _, _, _, _, _, _, _, _, _, _, _, _, _, _, _, _, _, _, _, _, _, _, _, _, _, _, _, _, _, _, _, _, _, _]) (by kernel_rfl) rfl ?_
          refine x_thenNormal ?_
          refine c_ift rfl ?_
          refine c_rseq (n := 65) ⟨rfl, rfl⟩ ?_
          refine s_val (r_assign rfl) ?_
          refine c_nil (l' := [_, _, _, _, _, _, _, _, _, _, _, _, _, _, _, _, _, _, _, _, _, _, _, _, _, _, _, _, _, _, _, _, _, _, _, _, _, _, _, _, _, _, _, _, _, _, _, _, _, _, _, _, _, _, _, _, _, _, _, _, _, _, _, _, _]) rfl ?_
          refine wp_ret (x_thenRet (x_blockRet (x_thenRet (x_thenRet (x_blockRet (x_thenRet ?_))))))
          refine e_ret (res1 rfl rfl) ⟨_, rfl, ?_⟩
          exact ⟨by rw [decide_eq_false (fun hV => h39 (hv.1 hV).1.2.2.2.1)], H⟩
        · skip
          refine d_take (i := 8) rfl (by kernel_rfl) (fun _ _ _ h => h) H (fun _ _ => r_move rfl) rfl ?_
          refine d_takeG (i := 9) rfl (by kernel_rfl) (fun _ _ _ h => h) rfl rfl H (fun _ _ => r_move rfl) rfl ?_
          refine d_takeG (i := 10) rfl (by kernel_rfl) (fun _ _ _ h => h) rfl rfl H (fun _ _ => r_move rfl) rfl ?_
          refine d_takeG (i := 11) rfl (by kernel_rfl) (fun _ _ _ h => h) rfl rfl H (fun _ _ => r_indexAddrS Tryd.runUnderlying30 Tryd.sizeOf41 rfl rfl (by omega) (by omega)) rfl ?_
          refine d_takeG (i := 12) rfl (by kernel_rfl) (fun _ _ _ h => h) rfl rfl H (fun _ _ => r_fieldAddr (k := 1) Tryd.runUnderlying41 rfl Tryd.sizeOf38 (by decide) rfl rfl) rfl ?_
          refine d_takeG (i := 13) rfl (by kernel_rfl) (fun _ _ _ h => h) rfl rfl H (fun _ HS => r_load1 Tryd.isAgg38 rfl (HS.rd0 hb) (hs_at _ _ _ _ i hp (by omega))) rfl ?_
          refine d_all1 (i := 14) (by kernel_rfl) ?_
          refine b_call rfl (go_some rfl rfl) (r_call Tryd.call41 (ec rfl en)) (rmany_spec _ (by omega) (by omega) _) rfl ?_
          rintro v w ⟨rfl, HC⟩
          replace H := H.quiet HC
          refine ⟨H, ?_⟩
          refine d_takeG (i := 15) rfl (by kernel_rfl) (fun _ _ _ h => h) rfl rfl H (fun _ _ => r_geq rfl rfl) rfl ?_
          refine d_part (fun h47 => ?_) (fun h47 => ?_)
          · skip
            refine d_take (i := 16) rfl (by kernel_rfl) (fun _ _ _ h => h) H (fun _ _ => r_pickf rfl rfl) rfl ?_
            refine d_take (i := 17) rfl (by kernel_rfl) (fun _ _ _ h => h) H (fun _ _ => r_move rfl) rfl ?_
            refine d_takeN (i := 18) rfl (by kernel_rfl) (fun _ _ _ h => h) rfl rfl (by decide) H rfl ?_
            refine d_takeN (i := 19) rfl (by kernel_rfl) (fun _ _ _ h => h) rfl rfl (by decide) H rfl ?_
            refine d_takeN (i := 20) rfl (by kernel_rfl) (fun _ _ _ h => h) rfl rfl (by decide) H rfl ?_
            refine d_takeN (i := 21) rfl (by kernel_rfl) (fun _ _ _ h => h) rfl rfl (by decide) H rfl ?_
            refine d_takeN (i := 22) rfl (by kernel_rfl) (fun _ _ _ h => h) rfl rfl (by decide) H rfl ?_
            refine d_takeN (i := 23) rfl (by kernel_rfl) (fun _ _ _ h => h) rfl rfl (by decide) H rfl ?_
            refine d_takeN (i := 24) rfl (by kernel_rfl) (fun _ _ _ h => h) rfl rfl (by decide) H rfl ?_
            refine d_take (i := 25) rfl (by kernel_rfl) (fun _ _ _ h => h) H (fun _ _ => r_pickt rfl rfl) rfl ?_
            refine d_done (l' := [_, _, _, _, _, _, _, _, _, _, _, _, _, _, _, _, _, _, _, _, _, _, _, _, _, _, _, _, _, _, _, _, _, _, _, _, _, _, _, _, _, _, _, _, _, _, _, _, _, _, _, _, _, _, _, _, _, _, _, _, _, _, _, _, _]) (by kernel_rfl) rfl ?_
            refine x_thenNormal ?_
            refine c_ift rfl ?_
            refine c_rseq (n := 65) ⟨rfl, rfl⟩ ?_
            refine s_val (r_assign rfl) ?_
            refine c_nil (l' := [_, _, _, _, _, _, _, _, _, _, _, _, _, _, _, _, _, _, _, _, _, _, _, _, _, _, _, _, _, _, _, _, _, _, _, _, _, _, _, _, _, _, _, _, _, _, _, _, _, _, _, _, _, _, _, _, _, _, _, _, _, _, _, _, _]) rfl ?_
            refine wp_ret (x_thenRet (x_blockRet (x_thenRet (x_thenRet (x_blockRet (x_thenRet ?_))))))
            refine e_ret (res1 rfl rfl) ⟨_, rfl, ?_⟩
            exact ⟨by rw [decide_eq_false (fun hV => by have h := (hv.1 hV).1.2.2.2.2; have := many_zero; omega)], H⟩
          · skip
            refine d_take (i := 16) rfl (by kernel_rfl) (fun _ _ _ h => h) H (fun _ _ => r_pickf rfl rfl) rfl ?_
            refine d_take (i := 17) rfl (by kernel_rfl) (fun _ _ _ h => h) H (fun _ _ => r_move rfl) rfl ?_
            refine d_takeG (i := 18) rfl (by kernel_rfl) (fun _ _ _ h => h) rfl rfl H (fun _ _ => r_move rfl) rfl ?_
            refine d_takeG (i := 19) rfl (by kernel_rfl) (fun _ _ _ h => h) rfl rfl H (fun _ _ => r_move rfl) rfl ?_
            refine d_takeG (i := 20) rfl (by kernel_rfl) (fun _ _ _ h => h) rfl rfl H (fun _ _ => r_indexAddrS Tryd.runUnderlying30 Tryd.sizeOf41 rfl rfl (by omega) (by omega)) rfl ?_
            refine d_takeG (i := 21) rfl (by kernel_rfl) (fun _ _ _ h => h) rfl rfl H (fun _ _ => r_fieldAddr (k := 1) Tryd.runUnderlying41 rfl Tryd.sizeOf38 (by decide) rfl rfl) rfl ?_
            refine d_takeG (i := 22) rfl (by kernel_rfl) (fun _ _ _ h => h) rfl rfl H (fun _ HS => r_load1 Tryd.isAgg38 rfl (HS.rd0 hb) (hs_at _ _ _ _ i hp (by omega))) rfl ?_
            refine d_takeG (i := 23) rfl (by kernel_rfl) (fun _ _ _ h => h) rfl rfl H (fun _ _ => r_move rfl) rfl ?_
            refine d_takeG (i := 24) rfl (by kernel_rfl) (fun _ _ _ h => h) rfl rfl H (fun _ _ => r_lss rfl rfl) rfl ?_
            refine d_take (i := 25) rfl (by kernel_rfl) (fun _ _ _ h => h) H (fun _ _ => r_pickf rfl rfl) rfl ?_
            refine d_done (l' := [_, _, _, _, _, _, _, _, _, _, _, _, _, _, _, _, _, _, _, _, _, _, _, _, _, _, _, _, _, _, _, _, _, _, _, _, _, _, _, _, _, _, _, _, _, _, _, _, _, _, _, _, _, _, _, _, _, _, _, _, _, _, _, _, _]) (by kernel_rfl) rfl ?_
            refine x_thenNormal ?_
            refine c_if rfl (fun h57 => ?_) (fun h57 => ?_)
            · skip
              refine c_rseq (n := 65) ⟨rfl, rfl⟩ ?_
              refine s_val (r_assign rfl) ?_
              refine c_nil (l' := [_, _, _, _, _, _, _, _, _, _, _, _, _, _, _, _, _, _, _, _, _, _, _, _, _, _, _, _, _, _, _, _, _, _, _, _, _, _, _, _, _, _, _, _, _, _, _, _, _, _, _, _, _, _, _, _, _, _, _, _, _, _, _, _, _]) rfl ?_
              refine wp_ret (x_thenRet (x_blockRet (x_thenRet (x_thenRet (x_blockRet (x_thenRet ?_))))))
              refine e_ret (res1 rfl rfl) ⟨_, rfl, ?_⟩
              exact ⟨by rw [decide_eq_false (fun hV => by have h := (hv.1 hV).2.1; omega)], H⟩
            · skip
              have hok : okN (nd xs i) := ⟨by omega, by omega, by omega, by omega, by omega⟩
              refine wp_skip ?_
              refine x_thenNormal ?_
              refine c_region (n := 65) ⟨rfl, rfl⟩ ?_
              refine s_val (r_move rfl) ?_
              refine s_val (r_move rfl) ?_
              refine s_val (r_indexAddrS Tryd.runUnderlying30 Tryd.sizeOf41 rfl rfl (by omega) (by omega)) ?_
              refine s_val (r_fieldAddr (k := 1) Tryd.runUnderlying41 rfl Tryd.sizeOf38 (by decide) rfl rfl) ?_
              refine s_val (r_load1 Tryd.isAgg38 rfl (H.rd0 hb) (hs_at _ _ _ _ i hp (by omega))) ?_
              refine s_val (r_move rfl) ?_
              refine s_val (r_add rfl rfl (w_u64 (by omega) (by omega))) ?_
              refine s_val (r_assign rfl) ?_
              refine c_nil0 (l' := [_, _, _, _, _, _, _, _, _, _, _, _, _, _, _, _, _, _, _, _, _, _, _, _, _, _, _, _, _, _, _, _, _, _, _, _, _, _, _, _, _, _, _, _, _, _, _, _, _, _, _, _, _, _, _, _, _, _, _, _, _, _, _, _, _]) rfl ?_
              refine x_blockNormal ?_
              refine x_thenNormal ?_
              refine c_region (n := 65) ⟨rfl, rfl⟩ ?_
              refine s_val (r_move rfl) ?_
              refine s_val (r_add rfl rfl (w_i64 (by omega) (by omega))) ?_
              refine s_val (r_assign rfl) ?_
              refine c_nil0 (l' := [_, _, _, _, _, _, _, _, _, _, _, _, _, _, _, _, _, _, _, _, _, _, _, _, _, _, _, _, _, _, _, _, _, _, _, _, _, _, _, _, _, _, _, _, _, _, _, _, _, _, _, _, _, _, _, _, _, _, _, _, _, _, _, _, _]) rfl ?_
              exact ⟨i + 1, _, rfl, ⟨_, _, _, _, _, _, _, _, _, _, _, _, _, _, _, _, _, _, _, _, _, _, _, _, _, _, _, _, _, _, _, _, _, _, _, _, _, _, _, _, _, _, _, _, _, _, _, _, _, _, _, _, _, _, _, _, _, _, _, _, _, _, rfl, by omega, hv.trans ⟨fun h => h.2.2, fun h => ⟨hok, by omega, h⟩⟩, by omega, by omega, H⟩, by omega⟩
  · skip
    refine wp_exit (x_thenExit (x_thenExit (x_blockHit ?_)))
    refine x_thenNormal ?_
    refine c_rseq (n := 65) ⟨rfl, rfl⟩ ?_
    refine s_val (r_assign rfl) ?_
    refine c_nil (l' := [_, _, _, _, _, _, _, _, _, _, _, _, _, _, _, _, _, _, _, _, _, _, _, _, _, _, _, _, _, _, _, _, _, _, _, _, _, _, _, _, _, _, _, _, _, _, _, _, _, _, _, _, _, _, _, _, _, _, _, _, _, _, _, _, _]) rfl ?_
    refine wp_ret ?_
    refine e_ret (res1 rfl rfl) ⟨_, rfl, ?_⟩
    exact ⟨by rw [decide_eq_true (hv.2 (okFrom_end (by omega)))], H⟩

end Go.Proofs.YtblphhclfloodaaDoor
