import Derived.Test.YtihpeihlpgompaaProg
import Derived.Test.YtihpeihlpgompaaPVx1
namespace Go.Proofs.Ytihpeihlpgompaa
open Go Go.Er
theorem bytes5 : Try.t5.bytes = 1 := rfl

theorem shrN {n : Int} {k : Nat} (h : k ≤ 64) : n.fdiv (2 ^ min ((k : Nat) : Int).toNat IntKind.u64.bits) = n / 2 ^ k := by
 have e : min ((k : Nat) : Int).toNat IntKind.u64.bits = k := Nat.min_eq_left h
 rw [e, Int.fdiv_eq_ediv_of_nonneg _ (Int.le_of_lt (Int.pow_pos (by omega)))]

set_option maxHeartbeats 4000000 in
theorem put_spec (n : Int) (size : Nat) (_h0 : 0 ≤ n) (_h1 : n < 18446744073709551616) (hs : 1 ≤ size) (hs8 : size ≤ 8) (w0 : World) :
  Calls Try.prog 26 #[.int .u64 n, .int .i64 size] w0 fun e w => ∃ v, e = .returned v ∧ (∃ b, v = .slice (some ⟨b, 0, none⟩) size size ∧ St w0 [] w [(b, .cells (bC (putB n size)).toArray 5 (0, 0))]) := by
 have H := St.refl w0
 refine c_enter (args := [.int .u64 n, .int .i64 size]) (l := [.int .u64 n, .int .i64 size, undef, undef, undef, undef, undef, undef, undef, undef, undef, undef, undef, undef, undef, undef, undef, undef, undef, undef, undef, undef, undef, undef, undef, undef, undef, undef, undef, undef, undef, undef, undef, undef]) Try.func26 Try.ntmps26 rfl rfl ?_
 refine c_rseq (n := 34) ⟨rfl, rfl⟩ ?_
 refine s_val (r_assign rfl) ?_
 refine c_nil (l' := [_,_,_,_,_,_,_,_,_,_,_,_,_,_,_,_,_,_,_,_,_,_,_,_,_,_,_,_,_,_,_,_,_,_]) rfl ?_
 refine c_seq ?_
 refine c_rseq (n := 34) ⟨rfl, rfl⟩ ?_
 refine s_val (r_move rfl) ?_
 refine s_test (r_lss rfl rfl) (fun h8 => ?_) (fun h8 => ?_)
 ·skip
  exfalso; omega
 ·skip
  refine s_val (r_move rfl) ?_
  refine g_yes rfl rfl ?_
  refine s_val (r_move rfl) ?_
  refine g_yes rfl rfl ?_
  refine s_val (r_gtr rfl rfl) ?_
  refine s_val (r_pickf rfl rfl) ?_
  refine c_nil (l' := [_,_,_,_,_,_,_,_,_,_,_,_,_,_,_,_,_,_,_,_,_,_,_,_,_,_,_,_,_,_,_,_,_,_]) rfl ?_
  refine c_if rfl (fun h12 => ?_) (fun h12 => ?_)
  ·skip
   exfalso; omega
  ·skip
   refine wp_skip ?_
   refine x_thenNormal ?_
   refine c_rseq (n := 34) ⟨rfl, rfl⟩ ?_
   refine s_val (r_move rfl) ?_
   refine s_new (m_make (nb := 1) (v := .int .u8 0) H Try.underlying25 (by kernel_rfl) rfl rfl rfl rfl rfl (by omega) (by omega)) ?_
   intro w b H
   refine s_val (r_assign rfl) ?_
   refine c_nil (l' := [_,_,_,_,_,_,_,_,_,_,_,_,_,_,_,_,_,_,_,_,_,_,_,_,_,_,_,_,_,_,_,_,_,_]) rfl ?_
   refine c_seq ?_
   refine c_rseq (n := 34) ⟨rfl, rfl⟩ ?_
   refine s_val (r_move rfl) ?_
   refine s_val (r_lens Try.runUnderlying25 (ec rfl en)) ?_
   refine s_val (r_move rfl) ?_
   refine c_nil (l' := [_,_,_,_,_,_,_,_,_,_,_,_,_,_,_,_,_,_,_,_,_,_,_,_,_,_,_,_,_,_,_,_,_,_]) rfl ?_
   refine wp_block ?_
   refine c_loop (fun (l0 : List Value) (i : Nat) (l : List Value) (w : World) => ∃ (u6 u18 u19 u20 u21 u22 u23 u24 u25 u26 u27 u28 u29 u30 u31 u32 : Value) , l = ovr l0 [N_, N_, N_, N_, N_, N_, Y_ u6, N_, N_, N_, N_, N_, N_, N_, N_, N_, N_, Y_ (.int .i64 i), Y_ u18, Y_ u19, Y_ u20, Y_ u21, Y_ u22, Y_ u23, Y_ u24, Y_ u25, Y_ u26, Y_ u27, Y_ u28, Y_ u29, Y_ u30, Y_ u31, Y_ u32] ∧ i ≤ size ∧ St w0 [] w [(b, .cells (bC (mix (putB n size) (List.replicate size 0) i)).toArray 5 (0, 0))]) (fun (i : Nat) => size - i) 0 ⟨_,_,_,_,_,_,_,_,_,_,_,_,_,_,_,_, rfl, by omega, (by rw [mix_zero]; simpa [bC] using H)⟩ ?_
   intro i l w ⟨u6, u18, u19, u20, u21, u22, u23, u24, u25, u26, u27, u28, u29, u30, u31, u32, hl, hi, H⟩
   obtain rfl := hl.trans (rfl : _ = [_,_,_,_,_,_,_,_,_,_,_,_,_,_,_,_,_,_,_,_,_,_,_,_,_,_,_,_,_,_,_,_,_,_])
   clear hl
   refine c_rseq (n := 34) ⟨rfl, rfl⟩ ?_
   refine s_val (r_lss rfl rfl) ?_
   refine c_nil (l' := [_,_,_,_,_,_,_,_,_,_,_,_,_,_,_,_,_,_,_,_,_,_,_,_,_,_,_,_,_,_,_,_,_,_]) rfl ?_
   refine c_seq ?_
   refine c_if rfl (fun h18 => ?_) (fun h18 => ?_)
   ·skip
    refine wp_skip ?_
    refine x_thenNormal ?_
    refine c_seq ?_
    refine wp_block ?_
    refine c_rseq (n := 34) ⟨rfl, rfl⟩ ?_
    refine s_val (r_move rfl) ?_
    refine s_val (r_assign rfl) ?_
    refine c_nil (l' := [_,_,_,_,_,_,_,_,_,_,_,_,_,_,_,_,_,_,_,_,_,_,_,_,_,_,_,_,_,_,_,_,_,_]) rfl ?_
    refine c_region (n := 34) ⟨rfl, rfl⟩ ?_
    refine s_val (r_move rfl) ?_
    refine s_val (r_move rfl) ?_
    refine s_val (r_move rfl) ?_
    refine s_val (r_move rfl) ?_
    refine s_val (r_sub rfl rfl (w_i64 (by omega) (by omega))) ?_
    refine s_val (r_move rfl) ?_
    refine s_val (r_sub rfl rfl (w_i64e (r := ((size - 1 - i : Nat) : Int)) (by omega) (by omega) (by omega))) ?_
    refine s_val (r_conv Try.runUnderlying3 Try.runUnderlying67 rfl (w_u64 (by omega) (by omega))) ?_
    refine s_val (r_mul rfl rfl (w_u64e (r := ((8 * (size - 1 - i) : Nat) : Int)) (by omega) (by omega) (by omega))) ?_
    refine s_val (r_shr rfl rfl (by omega) (shrN (by omega))) ?_
    refine s_val (r_conv Try.runUnderlying24 Try.runUnderlying5 rfl (w_u8' _)) ?_
    refine s_val (r_indexAddrS Try.runUnderlying25 Try.sizeOf5 rfl rfl (by omega) (by omega)) ?_
    refine s_st (m_store1 H 0 Try.sizeOf5 rfl rfl rfl rfl (by rw [bC_length, mix_length _ _ (by rw [putB_length, List.length_replicate]), List.length_replicate]; omega) (mix_set _ _ i (by rw [putB_length, List.length_replicate]) (by simp; omega) (by omega) (putB_get _ _ (by omega)).symm)) (L' := [_]) rfl ?_
    intro w H
    refine c_nil0 (l' := [_,_,_,_,_,_,_,_,_,_,_,_,_,_,_,_,_,_,_,_,_,_,_,_,_,_,_,_,_,_,_,_,_,_]) rfl ?_
    refine x_blockNormal ?_
    refine x_thenNormal ?_
    refine c_region (n := 34) ⟨rfl, rfl⟩ ?_
    refine s_val (r_add rfl rfl (w_i64 (by omega) (by omega))) ?_
    refine s_val (r_move rfl) ?_
    refine c_nil0 (l' := [_,_,_,_,_,_,_,_,_,_,_,_,_,_,_,_,_,_,_,_,_,_,_,_,_,_,_,_,_,_,_,_,_,_]) rfl ?_
    exact ⟨i + 1, _, rfl, ⟨_,_,_,_,_,_,_,_,_,_,_,_,_,_,_,_, rfl, by omega, H⟩, by omega⟩
   ·skip
    obtain rfl : i = size := by omega
    rw [mix_all _ _ (putB_length _ _) (by simp)] at H
    refine wp_exit (x_thenExit (x_thenExit (x_blockHit ?_)))
    refine x_thenNormal ?_
    refine c_rseq (n := 34) ⟨rfl, rfl⟩ ?_
    refine s_val (r_move rfl) ?_
    refine s_val (r_assign rfl) ?_
    refine c_nil (l' := [_,_,_,_,_,_,_,_,_,_,_,_,_,_,_,_,_,_,_,_,_,_,_,_,_,_,_,_,_,_,_,_,_,_]) rfl ?_
    refine wp_ret ?_
    refine e_ret (res1 rfl rfl) ⟨_, rfl, ?_⟩
    exact ⟨_, rfl, H⟩

set_option maxHeartbeats 4000000 in
theorem get_spec (a : Option Addr) (cap : Nat) (bs : List UInt8) (h1 : 1 ≤ bs.length) (h8 : bs.length ≤ 8) (w0 : World) (hr : BRow w0 a bs) :
  Calls Try.prog 47 #[.slice a bs.length cap] w0 fun e w => ∃ v, e = .returned v ∧ (v = .tuple #[.int .u64 (getN bs), .bool true] ∧ St w0 [] w []) := by
 have H := St.refl w0
 refine c_enter (args := [.slice a bs.length cap]) (l := [.slice a bs.length cap, undef, undef, undef, undef, undef, undef, undef, undef, undef, undef, undef, undef, undef, undef, undef, undef, undef, undef, undef, undef, undef, undef, undef, undef, undef, undef, undef]) Try.func47 Try.ntmps47 rfl rfl ?_
 refine c_rseq (n := 28) ⟨rfl, rfl⟩ ?_
 refine s_val (r_assign rfl) ?_
 refine s_val (r_assign rfl) ?_
 refine c_nil (l' := [_,_,_,_,_,_,_,_,_,_,_,_,_,_,_,_,_,_,_,_,_,_,_,_,_,_,_,_]) rfl ?_
 refine c_seq ?_
 refine c_rseq (n := 28) ⟨rfl, rfl⟩ ?_
 refine s_val (r_move rfl) ?_
 refine s_val (r_lens Try.runUnderlying25 (ec rfl en)) ?_
 refine s_test (r_lss rfl rfl) (fun h9 => ?_) (fun h9 => ?_)
 ·skip
  exfalso; omega
 ·skip
  refine s_val (r_move rfl) ?_
  refine g_yes rfl rfl ?_
  refine s_val (r_move rfl) ?_
  refine g_yes rfl rfl ?_
  refine s_val (r_lens Try.runUnderlying25 (ec rfl en)) ?_
  refine g_yes rfl rfl ?_
  refine s_val (r_gtr rfl rfl) ?_
  refine s_val (r_pickf rfl rfl) ?_
  refine c_nil (l' := [_,_,_,_,_,_,_,_,_,_,_,_,_,_,_,_,_,_,_,_,_,_,_,_,_,_,_,_]) rfl ?_
  refine c_if rfl (fun h14 => ?_) (fun h14 => ?_)
  ·skip
   exfalso; omega
  ·skip
   refine wp_skip ?_
   refine x_thenNormal ?_
   refine c_rseq (n := 28) ⟨rfl, rfl⟩ ?_
   refine s_val (r_assign rfl) ?_
   refine c_nil (l' := [_,_,_,_,_,_,_,_,_,_,_,_,_,_,_,_,_,_,_,_,_,_,_,_,_,_,_,_]) rfl ?_
   refine c_seq ?_
   refine c_rseq (n := 28) ⟨rfl, rfl⟩ ?_
   refine s_val (r_move rfl) ?_
   refine s_val (r_lens Try.runUnderlying25 (ec rfl en)) ?_
   refine s_val (r_move rfl) ?_
   refine c_nil (l' := [_,_,_,_,_,_,_,_,_,_,_,_,_,_,_,_,_,_,_,_,_,_,_,_,_,_,_,_]) rfl ?_
   refine wp_block ?_
   refine c_loop (fun (l0 : List Value) (i : Nat) (l : List Value) (w : World) => ∃ (u6 u18 u19 u20 u21 u22 u23 u24 u25 u26 : Value) , l = ovr l0 [N_, N_, N_, N_, Y_ (.int .u64 (getN (bs.take i))), N_, Y_ u6, N_, N_, N_, N_, N_, N_, N_, N_, N_, N_, Y_ (.int .i64 i), Y_ u18, Y_ u19, Y_ u20, Y_ u21, Y_ u22, Y_ u23, Y_ u24, Y_ u25, Y_ u26] ∧ i ≤ bs.length ∧ St w0 [] w []) (fun (i : Nat) => bs.length - i) 0 ⟨_,_,_,_,_,_,_,_,_,_, rfl, by omega, H⟩ ?_
   intro i l w ⟨u6, u18, u19, u20, u21, u22, u23, u24, u25, u26, hl, hi, H⟩
   obtain rfl := hl.trans (rfl : _ = [_,_,_,_,_,_,_,_,_,_,_,_,_,_,_,_,_,_,_,_,_,_,_,_,_,_,_,_])
   clear hl
   refine c_rseq (n := 28) ⟨rfl, rfl⟩ ?_
   refine s_val (r_lss rfl rfl) ?_
   refine c_nil (l' := [_,_,_,_,_,_,_,_,_,_,_,_,_,_,_,_,_,_,_,_,_,_,_,_,_,_,_,_]) rfl ?_
   refine c_seq ?_
   refine c_if rfl (fun h18 => ?_) (fun h18 => ?_)
   ·skip
    refine wp_skip ?_
    refine x_thenNormal ?_
    refine c_seq ?_
    refine wp_block ?_
    refine c_rseq (n := 28) ⟨rfl, rfl⟩ ?_
    obtain ⟨bb, off, pre, post, T, fz, rfl, hb, hp⟩ := hr (by omega)
    refine s_val (r_indexAddrS Try.runUnderlying25 Try.sizeOf5 rfl rfl (by omega) (by omega)) ?_
    refine s_val (r_load1 Try.isAgg5 rfl (H.rd0 hb) (bs_getE _ bs _ i hp (by omega) (by omega))) ?_
    refine s_val (r_assign rfl) ?_
    refine c_nil (l' := [_,_,_,_,_,_,_,_,_,_,_,_,_,_,_,_,_,_,_,_,_,_,_,_,_,_,_,_]) rfl ?_
    refine c_region (n := 28) ⟨rfl, rfl⟩ ?_
    refine s_val (r_move rfl) ?_
    have hgn := getN_lt bs (i := i) (by omega)
    refine s_val (r_shl rfl rfl (by omega) (shl8 (by omega) (by omega))) ?_
    refine s_val (r_move rfl) ?_
    refine s_val (r_conv Try.runUnderlying5 Try.runUnderlying24 rfl (w_u64 (by omega) (by have := (bs.getD i 0).toNat_lt; omega))) ?_
    refine s_val (r_or rfl rfl ((or_step (by omega) (by omega)).trans (getN_take (by omega)).symm)) ?_
    refine s_val (r_assign rfl) ?_
    refine c_nil0 (l' := [_,_,_,_,_,_,_,_,_,_,_,_,_,_,_,_,_,_,_,_,_,_,_,_,_,_,_,_]) rfl ?_
    refine x_blockNormal ?_
    refine x_thenNormal ?_
    refine c_region (n := 28) ⟨rfl, rfl⟩ ?_
    refine s_val (r_add rfl rfl (w_i64 (by omega) (by omega))) ?_
    refine s_val (r_move rfl) ?_
    refine c_nil0 (l' := [_,_,_,_,_,_,_,_,_,_,_,_,_,_,_,_,_,_,_,_,_,_,_,_,_,_,_,_]) rfl ?_
    exact ⟨i + 1, _, rfl, ⟨_,_,_,_,_,_,_,_,_,_, rfl, by omega, H⟩, by omega⟩
   ·skip
    obtain rfl : i = bs.length := by omega
    refine wp_exit (x_thenExit (x_thenExit (x_blockHit ?_)))
    refine x_thenNormal ?_
    refine c_rseq (n := 28) ⟨rfl, rfl⟩ ?_
    refine s_val (r_move rfl) ?_
    refine s_val (r_assign rfl) ?_
    refine s_val (r_assign rfl) ?_
    refine c_nil (l' := [_,_,_,_,_,_,_,_,_,_,_,_,_,_,_,_,_,_,_,_,_,_,_,_,_,_,_,_]) rfl ?_
    refine wp_ret ?_
    refine e_ret (res2 rfl rfl rfl) ⟨_, rfl, ?_⟩
    exact ⟨by rw [List.take_length], H⟩

theorem getn_spec (a : Option Addr) (cap n : Nat) (bs : List UInt8) (hn : n = bs.length) (h1 : 1 ≤ bs.length) (h8 : bs.length ≤ 8) (w0 : World) (hr : BRow w0 a bs) :
  Calls Try.prog 47 #[.slice a n cap] w0 fun e w => ∃ v, e = .returned v ∧ v = .tuple #[.int .u64 (getN bs), .bool true] ∧ St w0 [] w [] := by
 subst hn
 exact get_spec a cap bs h1 h8 w0 hr


set_option maxHeartbeats 4000000 in
theorem get0_spec  (w0 : World) :
  Calls Try.prog 47 #[.slice none 0 0] w0 fun e w => ∃ v, e = .returned v ∧ (v = .tuple #[.int .u64 0, .bool false] ∧ St w0 [] w []) := by
 have H := St.refl w0
 refine c_enter (args := [.slice none 0 0]) (l := [.slice none 0 0, undef, undef, undef, undef, undef, undef, undef, undef, undef, undef, undef, undef, undef, undef, undef, undef, undef, undef, undef, undef, undef, undef, undef, undef, undef, undef, undef]) Try.func47 Try.ntmps47 rfl rfl ?_
 refine c_rseq (n := 28) ⟨rfl, rfl⟩ ?_
 refine s_val (r_assign rfl) ?_
 refine s_val (r_assign rfl) ?_
 refine c_nil (l' := [_,_,_,_,_,_,_,_,_,_,_,_,_,_,_,_,_,_,_,_,_,_,_,_,_,_,_,_]) rfl ?_
 refine c_seq ?_
 refine c_rseq (n := 28) ⟨rfl, rfl⟩ ?_
 refine s_val (r_move rfl) ?_
 refine s_val (r_lens Try.runUnderlying25 (ec rfl en)) ?_
 refine s_val (r_lss rfl rfl) ?_
 refine s_val (r_move rfl) ?_
 refine g_no rfl rfl (by decide) ?_
 refine g_no rfl rfl (by decide) ?_
 refine g_no rfl rfl (by decide) ?_
 refine s_val (r_pickt rfl rfl) ?_
 refine c_nil (l' := [_,_,_,_,_,_,_,_,_,_,_,_,_,_,_,_,_,_,_,_,_,_,_,_,_,_,_,_]) rfl ?_
 refine c_ift rfl ?_
 refine c_rseq (n := 28) ⟨rfl, rfl⟩ ?_
 refine s_val (r_assign rfl) ?_
 refine s_val (r_assign rfl) ?_
 refine c_nil (l' := [_,_,_,_,_,_,_,_,_,_,_,_,_,_,_,_,_,_,_,_,_,_,_,_,_,_,_,_]) rfl ?_
 refine wp_ret (x_thenRet ?_)
 refine e_ret (res2 rfl rfl rfl) ⟨_, rfl, ?_⟩
 exact ⟨rfl, H⟩

set_option maxHeartbeats 4000000 in
theorem take_spec (r : Nat) (a : Option Addr) (st : List UInt8 × Bool) (c n : Nat) (hc : st.1.length ≤ c) (_hl : st.1.length ≤ 1000000) (w0 : World) (hown : Go.Er.Own w0 [(r, .cells (rdC a st c).toArray 80 (0, 0))]) :
  Calls Try.prog 30 #[.pointer (some ⟨r, 0, none⟩), .int .i64 (n : Nat)] w0 fun e w => ∃ v, e = .returned v ∧ ((st.1.length < n ∧ v = .slice none 0 0 ∧ St w0 [r] w [(r, .cells (rdC none ([], true) 0).toArray 80 (0, 0))]) ∨ (n ≤ st.1.length ∧ v = .slice (cutA a 1 c 0) n c ∧ St w0 [r] w [(r, .cells (rdC (cutA a 1 c n) (st.1.drop n, st.2) (c - n)).toArray 80 (0, 0))])) := by
 have H : St w0 [r] w0 [(r, .cells (rdC a st c).toArray 80 (0, 0))] := hown.st
 refine c_enter (args := [.pointer (some ⟨r, 0, none⟩), .int .i64 (n : Nat)]) (l := [.pointer (some ⟨r, 0, none⟩), .int .i64 (n : Nat), undef, undef, undef, undef, undef, undef, undef, undef, undef, undef, undef, undef, undef, undef, undef, undef, undef, undef, undef, undef, undef, undef, undef, undef, undef, undef, undef, undef, undef, undef, undef, undef, undef]) Try.func30 Try.ntmps30 rfl rfl ?_
 refine c_rseq (n := 35) ⟨rfl, rfl⟩ ?_
 refine s_val (r_assign rfl) ?_
 refine c_nil (l' := [_,_,_,_,_,_,_,_,_,_,_,_,_,_,_,_,_,_,_,_,_,_,_,_,_,_,_,_,_,_,_,_,_,_,_]) rfl ?_
 refine c_seq ?_
 refine c_rseq (n := 35) ⟨rfl, rfl⟩ ?_
 refine s_val (r_move rfl) ?_
 refine s_val (r_nilCheck rfl) ?_
 refine s_val (r_fieldAddr (k := 0) Try.runUnderlying80 rfl Try.sizeOf25 (by decide) rfl rfl) ?_
 refine s_val (r_load1 Try.isAgg25 rfl (H.at 0 rfl) rfl) ?_
 refine s_val (r_lens Try.runUnderlying25 (ec rfl en)) ?_
 refine s_val (r_move rfl) ?_
 refine s_val (r_lss rfl rfl) ?_
 refine c_nil (l' := [_,_,_,_,_,_,_,_,_,_,_,_,_,_,_,_,_,_,_,_,_,_,_,_,_,_,_,_,_,_,_,_,_,_,_]) rfl ?_
 refine c_if rfl (fun h12 => ?_) (fun h12 => ?_)
 ·skip
  refine c_rseq (n := 35) ⟨rfl, rfl⟩ ?_
  refine s_val (r_move rfl) ?_
  refine s_val (r_move rfl) ?_
  refine s_val (r_nilCheck rfl) ?_
  refine s_val (r_fieldAddr (k := 1) Try.runUnderlying80 rfl Try.sizeOf4 (by decide) rfl rfl) ?_
  refine s_st (m_store1 H 0 Try.sizeOf4 rfl rfl rfl rfl (by show 1 < 2; omega) rfl) (L' := [_]) rfl ?_
  intro w H
  refine s_val (r_nilCheck rfl) ?_
  refine s_val (r_fieldAddr (k := 0) Try.runUnderlying80 rfl Try.sizeOf25 (by decide) rfl rfl) ?_
  refine s_st (m_store1 H 0 Try.sizeOf25 rfl rfl rfl rfl (by show 0 < 2; omega) (rfl : _ = rdC none ([], true) 0)) (L' := [_]) rfl ?_
  intro w H
  refine c_nil (l' := [_,_,_,_,_,_,_,_,_,_,_,_,_,_,_,_,_,_,_,_,_,_,_,_,_,_,_,_,_,_,_,_,_,_,_]) rfl ?_
  refine c_rseq (n := 35) ⟨rfl, rfl⟩ ?_
  refine s_val (r_assign rfl) ?_
  refine c_nil (l' := [_,_,_,_,_,_,_,_,_,_,_,_,_,_,_,_,_,_,_,_,_,_,_,_,_,_,_,_,_,_,_,_,_,_,_]) rfl ?_
  refine wp_ret (x_thenRet ?_)
  refine e_ret (res1 rfl rfl) ⟨_, rfl, ?_⟩
  exact .inl ⟨by omega, rfl, H⟩
 ·skip
  refine wp_skip ?_
  refine x_thenNormal ?_
  refine c_rseq (n := 35) ⟨rfl, rfl⟩ ?_
  refine s_val (r_move rfl) ?_
  refine s_val (r_nilCheck rfl) ?_
  refine s_val (r_fieldAddr (k := 0) Try.runUnderlying80 rfl Try.sizeOf25 (by decide) rfl rfl) ?_
  refine s_val (r_load1 Try.isAgg25 rfl (H.at 0 rfl) rfl) ?_
  refine s_val (r_move rfl) ?_
  refine s_val (r_sliceH Try.runUnderlying25 Try.sizeOf5 rfl rfl rfl (by omega)) ?_
  refine s_val (r_assign rfl) ?_
  refine c_nil (l' := [_,_,_,_,_,_,_,_,_,_,_,_,_,_,_,_,_,_,_,_,_,_,_,_,_,_,_,_,_,_,_,_,_,_,_]) rfl ?_
  refine c_rseq (n := 35) ⟨rfl, rfl⟩ ?_
  refine s_val (r_move rfl) ?_
  refine s_val (r_move rfl) ?_
  refine s_val (r_nilCheck rfl) ?_
  refine s_val (r_fieldAddr (k := 0) Try.runUnderlying80 rfl Try.sizeOf25 (by decide) rfl rfl) ?_
  refine s_val (r_load1 Try.isAgg25 rfl (H.at 0 rfl) rfl) ?_
  refine s_val (r_move rfl) ?_
  refine s_val (r_sliceL Try.runUnderlying25 Try.sizeOf5 rfl rfl rfl (by omega)) ?_
  refine s_val (r_nilCheck rfl) ?_
  refine s_val (r_fieldAddr (k := 0) Try.runUnderlying80 rfl Try.sizeOf25 (by decide) rfl rfl) ?_
  refine s_st (m_store1 H 0 Try.sizeOf25 rfl rfl rfl rfl (by show 0 < 2; omega) (rdC_set _ _ _ _ _ _)) (L' := [_]) rfl ?_
  intro w H
  refine c_nil (l' := [_,_,_,_,_,_,_,_,_,_,_,_,_,_,_,_,_,_,_,_,_,_,_,_,_,_,_,_,_,_,_,_,_,_,_]) rfl ?_
  refine c_rseq (n := 35) ⟨rfl, rfl⟩ ?_
  refine s_val (r_move rfl) ?_
  refine s_val (r_assign rfl) ?_
  refine c_nil (l' := [_,_,_,_,_,_,_,_,_,_,_,_,_,_,_,_,_,_,_,_,_,_,_,_,_,_,_,_,_,_,_,_,_,_,_]) rfl ?_
  refine wp_ret ?_
  refine e_ret (res1 rfl rfl) ⟨_, rfl, ?_⟩
  exact .inr ⟨by omega, rfl, H⟩

set_option maxHeartbeats 4000000 in
theorem num_spec (r : Nat) (a : Option Addr) (st : List UInt8 × Bool) (c n : Nat) (hc : st.1.length ≤ c) (hl : st.1.length ≤ 1000000) (hn1 : 1 ≤ n) (hn4 : n ≤ 4) (w0 : World) (hrX : ∀ w L, St w0 [r] w L → BRow w a st.1) (hown : Go.Er.Own w0 [(r, .cells (rdC a st c).toArray 80 (0, 0))]) :
  Calls Try.prog 28 #[.pointer (some ⟨r, 0, none⟩), .int .i64 (n : Nat)] w0 fun e w => ∃ v, e = .returned v ∧ (v = .int .i64 (rd n st).1 ∧ St w0 [r] w [(r, .cells (rdC (ra a c n st) (rd n st).2 (rc c n st)).toArray 80 (0, 0))]) := by
 have H : St w0 [r] w0 [(r, .cells (rdC a st c).toArray 80 (0, 0))] := hown.st
 refine c_enter (args := [.pointer (some ⟨r, 0, none⟩), .int .i64 (n : Nat)]) (l := [.pointer (some ⟨r, 0, none⟩), .int .i64 (n : Nat), undef, undef, undef, undef, undef, undef, undef, undef, undef, undef, undef, undef, undef, undef]) Try.func28 Try.ntmps28 rfl rfl ?_
 refine c_rseq (n := 16) ⟨rfl, rfl⟩ ?_
 refine s_val (r_assign rfl) ?_
 refine c_nil (l' := [_,_,_,_,_,_,_,_,_,_,_,_,_,_,_,_]) rfl ?_
 refine c_rseq (n := 16) ⟨rfl, rfl⟩ ?_
 refine s_val (r_move rfl) ?_
 refine s_val (r_move rfl) ?_
 refine s_call (r_call Try.call30 (ec rfl (ec rfl en))) (take_spec r a st c n hc hl _ hown) ?_
 rintro v w (⟨hlt, rfl, HC⟩ | ⟨hge, rfl, HC⟩)
 ·skip
  replace H := HC
  refine s_call (r_call Try.call47 (ec rfl en)) (get0_spec _) ?_
  rintro v w ⟨rfl, HC⟩
  replace H := H.quiet HC
  refine s_val (r_move rfl) ?_
  refine s_val (r_extract rfl rfl) ?_
  refine s_val (r_extract rfl rfl) ?_
  refine s_val (r_assign rfl) ?_
  refine s_val (r_assign rfl) ?_
  refine c_nil (l' := [_,_,_,_,_,_,_,_,_,_,_,_,_,_,_,_]) rfl ?_
  refine c_rseq (n := 16) ⟨rfl, rfl⟩ ?_
  refine s_val (r_move rfl) ?_
  refine s_val (r_conv Try.runUnderlying24 Try.runUnderlying3 rfl (w_i64 (by omega) (by omega))) ?_
  refine s_val (r_assign rfl) ?_
  refine c_nil (l' := [_,_,_,_,_,_,_,_,_,_,_,_,_,_,_,_]) rfl ?_
  refine wp_ret ?_
  refine e_ret (res1 rfl rfl) ⟨_, rfl, ?_⟩
  have hrd : rd n st = (0, ([], true)) := if_pos hlt
  rw [hrd, show ra a c n st = none from if_pos hlt, show rc c n st = 0 from if_pos hlt]
  exact ⟨rfl, H⟩
 ·skip
  replace H := HC
  have hb := brow_take (hrX _ _ H) n c
  have htl : (st.1.take n).length = n := by rw [List.length_take]; omega
  have hrg := rd_rng (st := st) hn4
  have hrd : rd n st = (getN (st.1.take n), (st.1.drop n, st.2)) := if_neg (by omega)
  rw [hrd] at hrg
  refine s_call (r_call Try.call47 (ec rfl en)) (getn_spec _ _ n (st.1.take n) htl.symm (by omega) (by omega) _ hb) ?_
  rintro v w ⟨rfl, HC⟩
  replace H := H.quiet HC
  refine s_val (r_move rfl) ?_
  refine s_val (r_extract rfl rfl) ?_
  refine s_val (r_extract rfl rfl) ?_
  refine s_val (r_assign rfl) ?_
  refine s_val (r_assign rfl) ?_
  refine c_nil (l' := [_,_,_,_,_,_,_,_,_,_,_,_,_,_,_,_]) rfl ?_
  refine c_rseq (n := 16) ⟨rfl, rfl⟩ ?_
  refine s_val (r_move rfl) ?_
  refine s_val (r_conv Try.runUnderlying24 Try.runUnderlying3 rfl (w_i64 (by omega) (by omega))) ?_
  refine s_val (r_assign rfl) ?_
  refine c_nil (l' := [_,_,_,_,_,_,_,_,_,_,_,_,_,_,_,_]) rfl ?_
  refine wp_ret ?_
  refine e_ret (res1 rfl rfl) ⟨_, rfl, ?_⟩
  rw [hrd, show ra a c n st = cutA a 1 c n from if_neg (by omega), show rc c n st = c - n from if_neg (by omega)]
  exact ⟨rfl, H⟩

set_option maxHeartbeats 4000000 in
theorem has_k (k : Int) (w0 : World) :
  Calls Try.prog 27 #[.int .i64 k] w0 fun e w => ∃ v, e = .returned v ∧ (v = .tuple #[.agg (ptC (kPl k) (kRf k) (kMi k) (kBo k)).toArray, .bool (kOk k)] ∧ St w0 [] w []) := by
 have H := St.refl w0
 refine c_enter (args := [.int .i64 k]) (l := [.int .i64 k, undef, undef, undef, undef, undef, undef, undef, undef, undef, undef, undef, undef, undef, undef, undef, undef, undef, undef, undef, undef, undef, undef, undef, undef, undef, undef]) Try.func27 Try.ntmps27 rfl rfl ?_
 refine c_rseq (n := 27) ⟨rfl, rfl⟩ ?_
 refine s_new (m_alloc (cs := (ptC false false false false)) H Try.zeroValue75 rfl) ?_
 intro w b2 H
 refine s_val (r_assign rfl) ?_
 refine c_nil (l' := [_,_,_,_,_,_,_,_,_,_,_,_,_,_,_,_,_,_,_,_,_,_,_,_,_,_,_]) rfl ?_
 refine c_rseq (n := 27) ⟨rfl, rfl⟩ ?_
 refine s_new (m_alloc (cs := (ptC false false false false)) H Try.zeroValue75 rfl) ?_
 intro w b4 H
 refine c_nil (l' := [_,_,_,_,_,_,_,_,_,_,_,_,_,_,_,_,_,_,_,_,_,_,_,_,_,_,_]) rfl ?_
 refine c_seq ?_
 refine c_rseq (n := 27) ⟨rfl, rfl⟩ ?_
 refine s_val (r_move rfl) ?_
 refine c_nil (l' := [_,_,_,_,_,_,_,_,_,_,_,_,_,_,_,_,_,_,_,_,_,_,_,_,_,_,_]) rfl ?_
 refine wp_block ?_
 refine c_seq ?_
 refine wp_block ?_
 refine c_seq ?_
 refine wp_block ?_
 refine c_seq ?_
 refine wp_block ?_
 refine c_seq ?_
 refine wp_block ?_
 refine c_seq ?_
 refine wp_block ?_
 refine c_seq ?_
 refine wp_block ?_
 refine c_seq ?_
 refine wp_block ?_
 refine c_seq ?_
 refine c_seq ?_
 refine c_seq ?_
 refine c_rseq (n := 27) ⟨rfl, rfl⟩ ?_
 refine s_val (r_eql rfl rfl) ?_
 refine s_val (r_assign rfl) ?_
 refine c_nil (l' := [_,_,_,_,_,_,_,_,_,_,_,_,_,_,_,_,_,_,_,_,_,_,_,_,_,_,_]) rfl ?_
 refine c_if rfl (fun h6 => ?_) (fun h6 => ?_)
 ·skip
  skip
  refine wp_skip ?_
  refine x_thenNormal ?_
  refine c_if rfl (fun h6 => ?_) (fun h6 => ?_)
  ·skip
   skip
   refine wp_exit (x_thenExit (x_thenExit (x_blockHit ?_)))
   refine x_thenNormal ?_
   refine c_region (n := 27) ⟨rfl, rfl⟩ ?_
   refine s_val (r_fieldAddr (k := 3) Try.runUnderlying75 rfl Try.sizeOf4 (by decide) rfl rfl) ?_
   refine s_st (m_store1 H 0 Try.sizeOf4 rfl rfl rfl rfl (by show _ < 4; omega) rfl) (L' := (_ :: _ :: _)) rfl ?_
   intro w H
   refine c_nil0 (l' := [_,_,_,_,_,_,_,_,_,_,_,_,_,_,_,_,_,_,_,_,_,_,_,_,_,_,_]) rfl ?_
   refine x_blockNormal ?_
   refine x_thenNormal ?_
   refine c_region (n := 27) ⟨rfl, rfl⟩ ?_
   refine s_val (r_fieldAddr (k := 1) Try.runUnderlying75 rfl Try.sizeOf4 (by decide) rfl rfl) ?_
   refine s_st (m_store1 H 0 Try.sizeOf4 rfl rfl rfl rfl (by show _ < 4; omega) rfl) (L' := (_ :: _ :: _)) rfl ?_
   intro w H
   refine c_nil0 (l' := [_,_,_,_,_,_,_,_,_,_,_,_,_,_,_,_,_,_,_,_,_,_,_,_,_,_,_]) rfl ?_
   refine x_blockNormal ?_
   refine x_thenNormal ?_
   refine c_rseq (n := 27) ⟨rfl, rfl⟩ ?_
   refine s_val (r_fieldAddr (k := 0) Try.runUnderlying75 rfl Try.sizeOf4 (by decide) rfl rfl) ?_
   refine s_st (m_store1 H 0 Try.sizeOf4 rfl rfl rfl rfl (by show _ < 4; omega) rfl) (L' := (_ :: _ :: _)) rfl ?_
   intro w H
   refine c_nil (l' := [_,_,_,_,_,_,_,_,_,_,_,_,_,_,_,_,_,_,_,_,_,_,_,_,_,_,_]) rfl ?_
   refine wp_exit (x_blockMiss (by decide) (x_thenExit (x_blockMiss (by decide) (x_thenExit (x_blockMiss (by decide) (x_thenExit (x_blockMiss (by decide) (x_thenExit (x_blockHit ?_)))))))))
   refine x_thenNormal ?_
   refine c_rseq (n := 27) ⟨rfl, rfl⟩ ?_
   refine s_val (r_loadn Try.isAgg75 Try.sizeOf75 rfl (H.at 0 rfl) (by first | exact (kC_td _) | exact (hC_td _) | exact (hC_seed _) | exact (ceC_td _) | exact (ceC_place _) | exact (ptC_td _ _ _ _) | exact (plV_td _ _ _)) (by first | exact (kC_length _) | exact (hC_length _) | exact (ceC_length _) | exact (ptC_length _ _ _ _) | exact (plV_length _ _ _) | exact rfl)) ?_
   refine s_st (m_storen H 1 4 Try.sizeOf75 rfl rfl (by first | exact (kC_length _) | exact (hC_length _) | exact (ceC_length _) | exact (ptC_length _ _ _ _) | exact (plV_length _ _ _)) (by first | exact (kC_one _) | exact (hC_one _) | exact (ceC_one _) | exact (ptC_one _ _ _ _) | exact (plV_one _ _ _)) rfl (by show 0 + 4 ≤ 4; omega) rfl) (L' := (_ :: _ :: _)) rfl ?_
   intro w H
   refine s_val (r_assign rfl) ?_
   refine c_nil (l' := [_,_,_,_,_,_,_,_,_,_,_,_,_,_,_,_,_,_,_,_,_,_,_,_,_,_,_]) rfl ?_
   refine wp_ret ?_
   refine e_ret (rc_two rfl (rc_celln Try.isAgg75 Try.sizeOf75 rfl (H.at 1 rfl) (by first | exact (kC_td _) | exact (hC_td _) | exact (hC_seed _) | exact (ceC_td _) | exact (ceC_place _) | exact (ptC_td _ _ _ _) | exact (plV_td _ _ _)) (by first | exact (kC_length _) | exact (hC_length _) | exact (ceC_length _) | exact (ptC_length _ _ _ _) | exact (plV_length _ _ _))) (rc_tmp rfl)) ⟨_, rfl, ?_⟩
   obtain rfl : k = 1 := by omega
   exact ⟨rfl, H.sub (List.nil_sublist _)⟩
  ·skip
   exfalso; omega
 ·skip
  skip
  refine c_region (n := 27) ⟨rfl, rfl⟩ ?_
  refine s_val (r_eql rfl rfl) ?_
  refine s_val (r_assign rfl) ?_
  refine c_nil (l' := [_,_,_,_,_,_,_,_,_,_,_,_,_,_,_,_,_,_,_,_,_,_,_,_,_,_,_]) rfl ?_
  refine c_if rfl (fun h6 => ?_) (fun h6 => ?_)
  ·skip
   skip
   refine wp_exit (x_thenExit (x_thenExit (x_blockHit ?_)))
   refine x_thenNormal ?_
   refine c_region (n := 27) ⟨rfl, rfl⟩ ?_
   refine s_val (r_fieldAddr (k := 3) Try.runUnderlying75 rfl Try.sizeOf4 (by decide) rfl rfl) ?_
   refine s_st (m_store1 H 0 Try.sizeOf4 rfl rfl rfl rfl (by show _ < 4; omega) rfl) (L' := (_ :: _ :: _)) rfl ?_
   intro w H
   refine c_nil0 (l' := [_,_,_,_,_,_,_,_,_,_,_,_,_,_,_,_,_,_,_,_,_,_,_,_,_,_,_]) rfl ?_
   refine x_blockNormal ?_
   refine x_thenNormal ?_
   refine c_region (n := 27) ⟨rfl, rfl⟩ ?_
   refine s_val (r_fieldAddr (k := 1) Try.runUnderlying75 rfl Try.sizeOf4 (by decide) rfl rfl) ?_
   refine s_st (m_store1 H 0 Try.sizeOf4 rfl rfl rfl rfl (by show _ < 4; omega) rfl) (L' := (_ :: _ :: _)) rfl ?_
   intro w H
   refine c_nil0 (l' := [_,_,_,_,_,_,_,_,_,_,_,_,_,_,_,_,_,_,_,_,_,_,_,_,_,_,_]) rfl ?_
   refine x_blockNormal ?_
   refine x_thenNormal ?_
   refine c_rseq (n := 27) ⟨rfl, rfl⟩ ?_
   refine s_val (r_fieldAddr (k := 0) Try.runUnderlying75 rfl Try.sizeOf4 (by decide) rfl rfl) ?_
   refine s_st (m_store1 H 0 Try.sizeOf4 rfl rfl rfl rfl (by show _ < 4; omega) rfl) (L' := (_ :: _ :: _)) rfl ?_
   intro w H
   refine c_nil (l' := [_,_,_,_,_,_,_,_,_,_,_,_,_,_,_,_,_,_,_,_,_,_,_,_,_,_,_]) rfl ?_
   refine wp_exit (x_blockMiss (by decide) (x_thenExit (x_blockMiss (by decide) (x_thenExit (x_blockMiss (by decide) (x_thenExit (x_blockMiss (by decide) (x_thenExit (x_blockHit ?_)))))))))
   refine x_thenNormal ?_
   refine c_rseq (n := 27) ⟨rfl, rfl⟩ ?_
   refine s_val (r_loadn Try.isAgg75 Try.sizeOf75 rfl (H.at 0 rfl) (by first | exact (kC_td _) | exact (hC_td _) | exact (hC_seed _) | exact (ceC_td _) | exact (ceC_place _) | exact (ptC_td _ _ _ _) | exact (plV_td _ _ _)) (by first | exact (kC_length _) | exact (hC_length _) | exact (ceC_length _) | exact (ptC_length _ _ _ _) | exact (plV_length _ _ _) | exact rfl)) ?_
   refine s_st (m_storen H 1 4 Try.sizeOf75 rfl rfl (by first | exact (kC_length _) | exact (hC_length _) | exact (ceC_length _) | exact (ptC_length _ _ _ _) | exact (plV_length _ _ _)) (by first | exact (kC_one _) | exact (hC_one _) | exact (ceC_one _) | exact (ptC_one _ _ _ _) | exact (plV_one _ _ _)) rfl (by show 0 + 4 ≤ 4; omega) rfl) (L' := (_ :: _ :: _)) rfl ?_
   intro w H
   refine s_val (r_assign rfl) ?_
   refine c_nil (l' := [_,_,_,_,_,_,_,_,_,_,_,_,_,_,_,_,_,_,_,_,_,_,_,_,_,_,_]) rfl ?_
   refine wp_ret ?_
   refine e_ret (rc_two rfl (rc_celln Try.isAgg75 Try.sizeOf75 rfl (H.at 1 rfl) (by first | exact (kC_td _) | exact (hC_td _) | exact (hC_seed _) | exact (ceC_td _) | exact (ceC_place _) | exact (ptC_td _ _ _ _) | exact (plV_td _ _ _)) (by first | exact (kC_length _) | exact (hC_length _) | exact (ceC_length _) | exact (ptC_length _ _ _ _) | exact (plV_length _ _ _))) (rc_tmp rfl)) ⟨_, rfl, ?_⟩
   obtain rfl : k = 3 := by omega
   exact ⟨rfl, H.sub (List.nil_sublist _)⟩
  ·skip
   skip
   refine wp_skip ?_
   refine x_thenNormal ?_
   refine c_seq ?_
   refine c_seq ?_
   refine c_rseq (n := 27) ⟨rfl, rfl⟩ ?_
   refine s_val (r_eql rfl rfl) ?_
   refine s_val (r_assign rfl) ?_
   refine c_nil (l' := [_,_,_,_,_,_,_,_,_,_,_,_,_,_,_,_,_,_,_,_,_,_,_,_,_,_,_]) rfl ?_
   refine c_if rfl (fun h9 => ?_) (fun h9 => ?_)
   ·skip
    skip
    refine wp_skip ?_
    refine x_thenNormal ?_
    refine c_if rfl (fun h9 => ?_) (fun h9 => ?_)
    ·skip
     skip
     refine wp_exit (x_thenExit (x_thenExit (x_blockMiss (by decide) (x_thenExit (x_blockHit ?_)))))
     refine x_thenNormal ?_
     refine c_region (n := 27) ⟨rfl, rfl⟩ ?_
     refine s_val (r_fieldAddr (k := 1) Try.runUnderlying75 rfl Try.sizeOf4 (by decide) rfl rfl) ?_
     refine s_st (m_store1 H 0 Try.sizeOf4 rfl rfl rfl rfl (by show _ < 4; omega) rfl) (L' := (_ :: _ :: _)) rfl ?_
     intro w H
     refine c_nil0 (l' := [_,_,_,_,_,_,_,_,_,_,_,_,_,_,_,_,_,_,_,_,_,_,_,_,_,_,_]) rfl ?_
     refine x_blockNormal ?_
     refine x_thenNormal ?_
     refine c_rseq (n := 27) ⟨rfl, rfl⟩ ?_
     refine s_val (r_fieldAddr (k := 0) Try.runUnderlying75 rfl Try.sizeOf4 (by decide) rfl rfl) ?_
     refine s_st (m_store1 H 0 Try.sizeOf4 rfl rfl rfl rfl (by show _ < 4; omega) rfl) (L' := (_ :: _ :: _)) rfl ?_
     intro w H
     refine c_nil (l' := [_,_,_,_,_,_,_,_,_,_,_,_,_,_,_,_,_,_,_,_,_,_,_,_,_,_,_]) rfl ?_
     refine wp_exit (x_blockMiss (by decide) (x_thenExit (x_blockMiss (by decide) (x_thenExit (x_blockMiss (by decide) (x_thenExit (x_blockMiss (by decide) (x_thenExit (x_blockHit ?_)))))))))
     refine x_thenNormal ?_
     refine c_rseq (n := 27) ⟨rfl, rfl⟩ ?_
     refine s_val (r_loadn Try.isAgg75 Try.sizeOf75 rfl (H.at 0 rfl) (by first | exact (kC_td _) | exact (hC_td _) | exact (hC_seed _) | exact (ceC_td _) | exact (ceC_place _) | exact (ptC_td _ _ _ _) | exact (plV_td _ _ _)) (by first | exact (kC_length _) | exact (hC_length _) | exact (ceC_length _) | exact (ptC_length _ _ _ _) | exact (plV_length _ _ _) | exact rfl)) ?_
     refine s_st (m_storen H 1 4 Try.sizeOf75 rfl rfl (by first | exact (kC_length _) | exact (hC_length _) | exact (ceC_length _) | exact (ptC_length _ _ _ _) | exact (plV_length _ _ _)) (by first | exact (kC_one _) | exact (hC_one _) | exact (ceC_one _) | exact (ptC_one _ _ _ _) | exact (plV_one _ _ _)) rfl (by show 0 + 4 ≤ 4; omega) rfl) (L' := (_ :: _ :: _)) rfl ?_
     intro w H
     refine s_val (r_assign rfl) ?_
     refine c_nil (l' := [_,_,_,_,_,_,_,_,_,_,_,_,_,_,_,_,_,_,_,_,_,_,_,_,_,_,_]) rfl ?_
     refine wp_ret ?_
     refine e_ret (rc_two rfl (rc_celln Try.isAgg75 Try.sizeOf75 rfl (H.at 1 rfl) (by first | exact (kC_td _) | exact (hC_td _) | exact (hC_seed _) | exact (ceC_td _) | exact (ceC_place _) | exact (ptC_td _ _ _ _) | exact (plV_td _ _ _)) (by first | exact (kC_length _) | exact (hC_length _) | exact (ceC_length _) | exact (ptC_length _ _ _ _) | exact (plV_length _ _ _))) (rc_tmp rfl)) ⟨_, rfl, ?_⟩
     obtain rfl : k = 2 := by omega
     exact ⟨rfl, H.sub (List.nil_sublist _)⟩
    ·skip
     exfalso; omega
   ·skip
    skip
    refine c_region (n := 27) ⟨rfl, rfl⟩ ?_
    refine s_val (r_eql rfl rfl) ?_
    refine s_val (r_assign rfl) ?_
    refine c_nil (l' := [_,_,_,_,_,_,_,_,_,_,_,_,_,_,_,_,_,_,_,_,_,_,_,_,_,_,_]) rfl ?_
    refine c_if rfl (fun h9 => ?_) (fun h9 => ?_)
    ·skip
     skip
     refine wp_exit (x_thenExit (x_thenExit (x_blockMiss (by decide) (x_thenExit (x_blockHit ?_)))))
     refine x_thenNormal ?_
     refine c_region (n := 27) ⟨rfl, rfl⟩ ?_
     refine s_val (r_fieldAddr (k := 1) Try.runUnderlying75 rfl Try.sizeOf4 (by decide) rfl rfl) ?_
     refine s_st (m_store1 H 0 Try.sizeOf4 rfl rfl rfl rfl (by show _ < 4; omega) rfl) (L' := (_ :: _ :: _)) rfl ?_
     intro w H
     refine c_nil0 (l' := [_,_,_,_,_,_,_,_,_,_,_,_,_,_,_,_,_,_,_,_,_,_,_,_,_,_,_]) rfl ?_
     refine x_blockNormal ?_
     refine x_thenNormal ?_
     refine c_rseq (n := 27) ⟨rfl, rfl⟩ ?_
     refine s_val (r_fieldAddr (k := 0) Try.runUnderlying75 rfl Try.sizeOf4 (by decide) rfl rfl) ?_
     refine s_st (m_store1 H 0 Try.sizeOf4 rfl rfl rfl rfl (by show _ < 4; omega) rfl) (L' := (_ :: _ :: _)) rfl ?_
     intro w H
     refine c_nil (l' := [_,_,_,_,_,_,_,_,_,_,_,_,_,_,_,_,_,_,_,_,_,_,_,_,_,_,_]) rfl ?_
     refine wp_exit (x_blockMiss (by decide) (x_thenExit (x_blockMiss (by decide) (x_thenExit (x_blockMiss (by decide) (x_thenExit (x_blockMiss (by decide) (x_thenExit (x_blockHit ?_)))))))))
     refine x_thenNormal ?_
     refine c_rseq (n := 27) ⟨rfl, rfl⟩ ?_
     refine s_val (r_loadn Try.isAgg75 Try.sizeOf75 rfl (H.at 0 rfl) (by first | exact (kC_td _) | exact (hC_td _) | exact (hC_seed _) | exact (ceC_td _) | exact (ceC_place _) | exact (ptC_td _ _ _ _) | exact (plV_td _ _ _)) (by first | exact (kC_length _) | exact (hC_length _) | exact (ceC_length _) | exact (ptC_length _ _ _ _) | exact (plV_length _ _ _) | exact rfl)) ?_
     refine s_st (m_storen H 1 4 Try.sizeOf75 rfl rfl (by first | exact (kC_length _) | exact (hC_length _) | exact (ceC_length _) | exact (ptC_length _ _ _ _) | exact (plV_length _ _ _)) (by first | exact (kC_one _) | exact (hC_one _) | exact (ceC_one _) | exact (ptC_one _ _ _ _) | exact (plV_one _ _ _)) rfl (by show 0 + 4 ≤ 4; omega) rfl) (L' := (_ :: _ :: _)) rfl ?_
     intro w H
     refine s_val (r_assign rfl) ?_
     refine c_nil (l' := [_,_,_,_,_,_,_,_,_,_,_,_,_,_,_,_,_,_,_,_,_,_,_,_,_,_,_]) rfl ?_
     refine wp_ret ?_
     refine e_ret (rc_two rfl (rc_celln Try.isAgg75 Try.sizeOf75 rfl (H.at 1 rfl) (by first | exact (kC_td _) | exact (hC_td _) | exact (hC_seed _) | exact (ceC_td _) | exact (ceC_place _) | exact (ptC_td _ _ _ _) | exact (plV_td _ _ _)) (by first | exact (kC_length _) | exact (hC_length _) | exact (ceC_length _) | exact (ptC_length _ _ _ _) | exact (plV_length _ _ _))) (rc_tmp rfl)) ⟨_, rfl, ?_⟩
     obtain rfl : k = 4 := by omega
     exact ⟨rfl, H.sub (List.nil_sublist _)⟩
    ·skip
     skip
     refine wp_skip ?_
     refine x_thenNormal ?_
     refine c_seq ?_
     refine c_rseq (n := 27) ⟨rfl, rfl⟩ ?_
     refine s_val (r_eql rfl rfl) ?_
     refine s_val (r_assign rfl) ?_
     refine c_nil (l' := [_,_,_,_,_,_,_,_,_,_,_,_,_,_,_,_,_,_,_,_,_,_,_,_,_,_,_]) rfl ?_
     refine c_if rfl (fun h12 => ?_) (fun h12 => ?_)
     ·skip
      skip
      refine wp_exit (x_thenExit (x_thenExit (x_blockMiss (by decide) (x_thenExit (x_blockMiss (by decide) (x_thenExit (x_blockHit ?_)))))))
      refine x_thenNormal ?_
      refine c_rseq (n := 27) ⟨rfl, rfl⟩ ?_
      refine s_val (r_fieldAddr (k := 0) Try.runUnderlying75 rfl Try.sizeOf4 (by decide) rfl rfl) ?_
      refine s_st (m_store1 H 0 Try.sizeOf4 rfl rfl rfl rfl (by show _ < 4; omega) rfl) (L' := (_ :: _ :: _)) rfl ?_
      intro w H
      refine c_nil (l' := [_,_,_,_,_,_,_,_,_,_,_,_,_,_,_,_,_,_,_,_,_,_,_,_,_,_,_]) rfl ?_
      refine wp_exit (x_blockMiss (by decide) (x_thenExit (x_blockMiss (by decide) (x_thenExit (x_blockMiss (by decide) (x_thenExit (x_blockMiss (by decide) (x_thenExit (x_blockHit ?_)))))))))
      refine x_thenNormal ?_
      refine c_rseq (n := 27) ⟨rfl, rfl⟩ ?_
      refine s_val (r_loadn Try.isAgg75 Try.sizeOf75 rfl (H.at 0 rfl) (by first | exact (kC_td _) | exact (hC_td _) | exact (hC_seed _) | exact (ceC_td _) | exact (ceC_place _) | exact (ptC_td _ _ _ _) | exact (plV_td _ _ _)) (by first | exact (kC_length _) | exact (hC_length _) | exact (ceC_length _) | exact (ptC_length _ _ _ _) | exact (plV_length _ _ _) | exact rfl)) ?_
      refine s_st (m_storen H 1 4 Try.sizeOf75 rfl rfl (by first | exact (kC_length _) | exact (hC_length _) | exact (ceC_length _) | exact (ptC_length _ _ _ _) | exact (plV_length _ _ _)) (by first | exact (kC_one _) | exact (hC_one _) | exact (ceC_one _) | exact (ptC_one _ _ _ _) | exact (plV_one _ _ _)) rfl (by show 0 + 4 ≤ 4; omega) rfl) (L' := (_ :: _ :: _)) rfl ?_
      intro w H
      refine s_val (r_assign rfl) ?_
      refine c_nil (l' := [_,_,_,_,_,_,_,_,_,_,_,_,_,_,_,_,_,_,_,_,_,_,_,_,_,_,_]) rfl ?_
      refine wp_ret ?_
      refine e_ret (rc_two rfl (rc_celln Try.isAgg75 Try.sizeOf75 rfl (H.at 1 rfl) (by first | exact (kC_td _) | exact (hC_td _) | exact (hC_seed _) | exact (ceC_td _) | exact (ceC_place _) | exact (ptC_td _ _ _ _) | exact (plV_td _ _ _)) (by first | exact (kC_length _) | exact (hC_length _) | exact (ceC_length _) | exact (ptC_length _ _ _ _) | exact (plV_length _ _ _))) (rc_tmp rfl)) ⟨_, rfl, ?_⟩
      obtain rfl : k = 5 := by omega
      exact ⟨rfl, H.sub (List.nil_sublist _)⟩
     ·skip
      refine wp_skip ?_
      refine x_thenNormal ?_
      refine c_seq ?_
      refine c_rseq (n := 27) ⟨rfl, rfl⟩ ?_
      refine s_val (r_eql rfl rfl) ?_
      refine s_val (r_assign rfl) ?_
      refine c_nil (l' := [_,_,_,_,_,_,_,_,_,_,_,_,_,_,_,_,_,_,_,_,_,_,_,_,_,_,_]) rfl ?_
      refine c_if rfl (fun h14 => ?_) (fun h14 => ?_)
      ·skip
       skip
       refine wp_exit (x_thenExit (x_thenExit (x_blockMiss (by decide) (x_thenExit (x_blockMiss (by decide) (x_thenExit (x_blockMiss (by decide) (x_thenExit (x_blockHit ?_)))))))))
       refine x_thenNormal ?_
       refine c_region (n := 27) ⟨rfl, rfl⟩ ?_
       refine s_val (r_fieldAddr (k := 2) Try.runUnderlying75 rfl Try.sizeOf4 (by decide) rfl rfl) ?_
       refine s_st (m_store1 H 0 Try.sizeOf4 rfl rfl rfl rfl (by show _ < 4; omega) rfl) (L' := (_ :: _ :: _)) rfl ?_
       intro w H
       refine c_nil0 (l' := [_,_,_,_,_,_,_,_,_,_,_,_,_,_,_,_,_,_,_,_,_,_,_,_,_,_,_]) rfl ?_
       refine x_blockNormal ?_
       refine x_thenNormal ?_
       refine c_rseq (n := 27) ⟨rfl, rfl⟩ ?_
       refine s_val (r_fieldAddr (k := 1) Try.runUnderlying75 rfl Try.sizeOf4 (by decide) rfl rfl) ?_
       refine s_st (m_store1 H 0 Try.sizeOf4 rfl rfl rfl rfl (by show _ < 4; omega) rfl) (L' := (_ :: _ :: _)) rfl ?_
       intro w H
       refine c_nil (l' := [_,_,_,_,_,_,_,_,_,_,_,_,_,_,_,_,_,_,_,_,_,_,_,_,_,_,_]) rfl ?_
       refine wp_exit (x_blockMiss (by decide) (x_thenExit (x_blockMiss (by decide) (x_thenExit (x_blockHit ?_)))))
       refine x_thenNormal ?_
       refine c_rseq (n := 27) ⟨rfl, rfl⟩ ?_
       refine s_val (r_loadn Try.isAgg75 Try.sizeOf75 rfl (H.at 0 rfl) (by first | exact (kC_td _) | exact (hC_td _) | exact (hC_seed _) | exact (ceC_td _) | exact (ceC_place _) | exact (ptC_td _ _ _ _) | exact (plV_td _ _ _)) (by first | exact (kC_length _) | exact (hC_length _) | exact (ceC_length _) | exact (ptC_length _ _ _ _) | exact (plV_length _ _ _) | exact rfl)) ?_
       refine s_st (m_storen H 1 4 Try.sizeOf75 rfl rfl (by first | exact (kC_length _) | exact (hC_length _) | exact (ceC_length _) | exact (ptC_length _ _ _ _) | exact (plV_length _ _ _)) (by first | exact (kC_one _) | exact (hC_one _) | exact (ceC_one _) | exact (ptC_one _ _ _ _) | exact (plV_one _ _ _)) rfl (by show 0 + 4 ≤ 4; omega) rfl) (L' := (_ :: _ :: _)) rfl ?_
       intro w H
       refine s_val (r_assign rfl) ?_
       refine c_nil (l' := [_,_,_,_,_,_,_,_,_,_,_,_,_,_,_,_,_,_,_,_,_,_,_,_,_,_,_]) rfl ?_
       refine wp_ret ?_
       refine e_ret (rc_two rfl (rc_celln Try.isAgg75 Try.sizeOf75 rfl (H.at 1 rfl) (by first | exact (kC_td _) | exact (hC_td _) | exact (hC_seed _) | exact (ceC_td _) | exact (ceC_place _) | exact (ptC_td _ _ _ _) | exact (plV_td _ _ _)) (by first | exact (kC_length _) | exact (hC_length _) | exact (ceC_length _) | exact (ptC_length _ _ _ _) | exact (plV_length _ _ _))) (rc_tmp rfl)) ⟨_, rfl, ?_⟩
       obtain rfl : k = 6 := by omega
       exact ⟨rfl, H.sub (List.nil_sublist _)⟩
      ·skip
       refine wp_skip ?_
       refine x_thenNormal ?_
       refine c_seq ?_
       refine c_rseq (n := 27) ⟨rfl, rfl⟩ ?_
       refine s_val (r_eql rfl rfl) ?_
       refine s_val (r_assign rfl) ?_
       refine c_nil (l' := [_,_,_,_,_,_,_,_,_,_,_,_,_,_,_,_,_,_,_,_,_,_,_,_,_,_,_]) rfl ?_
       refine c_if rfl (fun h16 => ?_) (fun h16 => ?_)
       ·skip
        skip
        refine wp_exit (x_thenExit (x_thenExit (x_blockMiss (by decide) (x_thenExit (x_blockMiss (by decide) (x_thenExit (x_blockMiss (by decide) (x_thenExit (x_blockMiss (by decide) (x_thenExit (x_blockHit ?_)))))))))))
        refine x_thenNormal ?_
        refine c_rseq (n := 27) ⟨rfl, rfl⟩ ?_
        refine s_val (r_fieldAddr (k := 1) Try.runUnderlying75 rfl Try.sizeOf4 (by decide) rfl rfl) ?_
        refine s_st (m_store1 H 0 Try.sizeOf4 rfl rfl rfl rfl (by show _ < 4; omega) rfl) (L' := (_ :: _ :: _)) rfl ?_
        intro w H
        refine c_nil (l' := [_,_,_,_,_,_,_,_,_,_,_,_,_,_,_,_,_,_,_,_,_,_,_,_,_,_,_]) rfl ?_
        refine wp_exit (x_blockMiss (by decide) (x_thenExit (x_blockMiss (by decide) (x_thenExit (x_blockHit ?_)))))
        refine x_thenNormal ?_
        refine c_rseq (n := 27) ⟨rfl, rfl⟩ ?_
        refine s_val (r_loadn Try.isAgg75 Try.sizeOf75 rfl (H.at 0 rfl) (by first | exact (kC_td _) | exact (hC_td _) | exact (hC_seed _) | exact (ceC_td _) | exact (ceC_place _) | exact (ptC_td _ _ _ _) | exact (plV_td _ _ _)) (by first | exact (kC_length _) | exact (hC_length _) | exact (ceC_length _) | exact (ptC_length _ _ _ _) | exact (plV_length _ _ _) | exact rfl)) ?_
        refine s_st (m_storen H 1 4 Try.sizeOf75 rfl rfl (by first | exact (kC_length _) | exact (hC_length _) | exact (ceC_length _) | exact (ptC_length _ _ _ _) | exact (plV_length _ _ _)) (by first | exact (kC_one _) | exact (hC_one _) | exact (ceC_one _) | exact (ptC_one _ _ _ _) | exact (plV_one _ _ _)) rfl (by show 0 + 4 ≤ 4; omega) rfl) (L' := (_ :: _ :: _)) rfl ?_
        intro w H
        refine s_val (r_assign rfl) ?_
        refine c_nil (l' := [_,_,_,_,_,_,_,_,_,_,_,_,_,_,_,_,_,_,_,_,_,_,_,_,_,_,_]) rfl ?_
        refine wp_ret ?_
        refine e_ret (rc_two rfl (rc_celln Try.isAgg75 Try.sizeOf75 rfl (H.at 1 rfl) (by first | exact (kC_td _) | exact (hC_td _) | exact (hC_seed _) | exact (ceC_td _) | exact (ceC_place _) | exact (ptC_td _ _ _ _) | exact (plV_td _ _ _)) (by first | exact (kC_length _) | exact (hC_length _) | exact (ceC_length _) | exact (ptC_length _ _ _ _) | exact (plV_length _ _ _))) (rc_tmp rfl)) ⟨_, rfl, ?_⟩
        obtain rfl : k = 7 := by omega
        exact ⟨rfl, H.sub (List.nil_sublist _)⟩
       ·skip
        refine wp_skip ?_
        refine x_thenNormal ?_
        refine c_rseq (n := 27) ⟨rfl, rfl⟩ ?_
        refine s_val (r_eql rfl rfl) ?_
        refine s_val (r_assign rfl) ?_
        refine c_nil (l' := [_,_,_,_,_,_,_,_,_,_,_,_,_,_,_,_,_,_,_,_,_,_,_,_,_,_,_]) rfl ?_
        refine c_if rfl (fun h18 => ?_) (fun h18 => ?_)
        ·skip
         skip
         refine wp_exit (x_thenExit (x_blockMiss (by decide) (x_thenExit (x_blockMiss (by decide) (x_thenExit (x_blockMiss (by decide) (x_thenExit (x_blockMiss (by decide) (x_thenExit (x_blockMiss (by decide) (x_thenExit (x_blockHit ?_))))))))))))
         refine x_thenNormal ?_
         refine wp_exit (x_blockMiss (by decide) (x_thenExit (x_blockHit ?_)))
         refine x_thenNormal ?_
         refine c_rseq (n := 27) ⟨rfl, rfl⟩ ?_
         refine s_val (r_loadn Try.isAgg75 Try.sizeOf75 rfl (H.at 0 rfl) (by first | exact (kC_td _) | exact (hC_td _) | exact (hC_seed _) | exact (ceC_td _) | exact (ceC_place _) | exact (ptC_td _ _ _ _) | exact (plV_td _ _ _)) (by first | exact (kC_length _) | exact (hC_length _) | exact (ceC_length _) | exact (ptC_length _ _ _ _) | exact (plV_length _ _ _) | exact rfl)) ?_
         refine s_st (m_storen H 1 4 Try.sizeOf75 rfl rfl (by first | exact (kC_length _) | exact (hC_length _) | exact (ceC_length _) | exact (ptC_length _ _ _ _) | exact (plV_length _ _ _)) (by first | exact (kC_one _) | exact (hC_one _) | exact (ceC_one _) | exact (ptC_one _ _ _ _) | exact (plV_one _ _ _)) rfl (by show 0 + 4 ≤ 4; omega) rfl) (L' := (_ :: _ :: _)) rfl ?_
         intro w H
         refine s_val (r_assign rfl) ?_
         refine c_nil (l' := [_,_,_,_,_,_,_,_,_,_,_,_,_,_,_,_,_,_,_,_,_,_,_,_,_,_,_]) rfl ?_
         refine wp_ret ?_
         refine e_ret (rc_two rfl (rc_celln Try.isAgg75 Try.sizeOf75 rfl (H.at 1 rfl) (by first | exact (kC_td _) | exact (hC_td _) | exact (hC_seed _) | exact (ceC_td _) | exact (ceC_place _) | exact (ptC_td _ _ _ _) | exact (plV_td _ _ _)) (by first | exact (kC_length _) | exact (hC_length _) | exact (ceC_length _) | exact (ptC_length _ _ _ _) | exact (plV_length _ _ _))) (rc_tmp rfl)) ⟨_, rfl, ?_⟩
         obtain rfl : k = 8 := by omega
         exact ⟨rfl, H.sub (List.nil_sublist _)⟩
        ·skip
         refine wp_skip ?_
         refine x_thenNormal ?_
         refine wp_exit (x_blockMiss (by decide) (x_thenExit (x_blockMiss (by decide) (x_thenExit (x_blockMiss (by decide) (x_thenExit (x_blockMiss (by decide) (x_thenExit (x_blockMiss (by decide) (x_thenExit (x_blockMiss (by decide) (x_thenExit (x_blockHit ?_)))))))))))))
         refine x_thenNormal ?_
         refine c_seq ?_
         refine c_rseq (n := 27) ⟨rfl, rfl⟩ ?_
         refine s_val (r_loadn Try.isAgg75 Try.sizeOf75 rfl (H.at 0 rfl) (by first | exact (kC_td _) | exact (hC_td _) | exact (hC_seed _) | exact (ceC_td _) | exact (ceC_place _) | exact (ptC_td _ _ _ _) | exact (plV_td _ _ _)) (by first | exact (kC_length _) | exact (hC_length _) | exact (ceC_length _) | exact (ptC_length _ _ _ _) | exact (plV_length _ _ _) | exact rfl)) ?_
         refine s_st (m_storen H 1 4 Try.sizeOf75 rfl rfl (by first | exact (kC_length _) | exact (hC_length _) | exact (ceC_length _) | exact (ptC_length _ _ _ _) | exact (plV_length _ _ _)) (by first | exact (kC_one _) | exact (hC_one _) | exact (ceC_one _) | exact (ptC_one _ _ _ _) | exact (plV_one _ _ _)) rfl (by show 0 + 4 ≤ 4; omega) rfl) (L' := (_ :: _ :: _)) rfl ?_
         intro w H
         refine s_val (r_assign rfl) ?_
         refine c_nil (l' := [_,_,_,_,_,_,_,_,_,_,_,_,_,_,_,_,_,_,_,_,_,_,_,_,_,_,_]) rfl ?_
         refine wp_ret (x_thenRet (x_blockRet (x_thenRet ?_)))
         refine e_ret (rc_two rfl (rc_celln Try.isAgg75 Try.sizeOf75 rfl (H.at 1 rfl) (by first | exact (kC_td _) | exact (hC_td _) | exact (hC_seed _) | exact (ceC_td _) | exact (ceC_place _) | exact (ptC_td _ _ _ _) | exact (plV_td _ _ _)) (by first | exact (kC_length _) | exact (hC_length _) | exact (ceC_length _) | exact (ptC_length _ _ _ _) | exact (plV_length _ _ _))) (rc_tmp rfl)) ⟨_, rfl, ?_⟩
         exact ⟨by unfold kPl kRf kMi kBo kOk; rw [decide_eq_false (by omega), decide_eq_false (by omega), decide_eq_false (by omega), decide_eq_false (by omega), decide_eq_false (by omega)], H.sub (List.nil_sublist _)⟩

set_option maxHeartbeats 4000000 in
theorem within_spec (n m : Int) (w0 : World) :
  Calls Try.prog 45 #[.int .i64 n, .int .i64 m] w0 fun e w => ∃ v, e = .returned v ∧ (((inM n m) ∧ v = .bool true ∧ St w0 [] w []) ∨ (¬ (inM n m) ∧ v = .bool false ∧ St w0 [] w [])) := by
 have H := St.refl w0
 refine c_enter (args := [.int .i64 n, .int .i64 m]) (l := [.int .i64 n, .int .i64 m, undef, undef, undef, undef, undef, undef, undef, undef, undef, undef]) Try.func45 Try.ntmps45 rfl rfl ?_
 refine c_rseq (n := 12) ⟨rfl, rfl⟩ ?_
 refine s_val (r_assign rfl) ?_
 refine c_nil (l' := [_,_,_,_,_,_,_,_,_,_,_,_]) rfl ?_
 refine c_rseq (n := 12) ⟨rfl, rfl⟩ ?_
 refine s_val (r_move rfl) ?_
 refine s_test (r_geq rfl rfl) (fun h6 => ?_) (fun h6 => ?_)
 ·skip
  refine s_val (r_move rfl) ?_
  refine g_yes rfl rfl ?_
  refine s_val (r_move rfl) ?_
  refine g_yes rfl rfl ?_
  refine s_val (r_move rfl) ?_
  refine g_yes rfl rfl ?_
  refine s_test (r_leq rfl rfl) (fun h10 => ?_) (fun h10 => ?_)
  ·skip
   refine s_val (r_pickt rfl rfl) ?_
   refine s_val (r_assign rfl) ?_
   refine c_nil (l' := [_,_,_,_,_,_,_,_,_,_,_,_]) rfl ?_
   refine wp_ret ?_
   refine e_ret (res1 rfl rfl) ⟨_, rfl, ?_⟩
   exact .inl ⟨⟨h6, h10⟩, rfl, H⟩
  ·skip
   refine s_val (r_pickt rfl rfl) ?_
   refine s_val (r_assign rfl) ?_
   refine c_nil (l' := [_,_,_,_,_,_,_,_,_,_,_,_]) rfl ?_
   refine wp_ret ?_
   refine e_ret (res1 rfl rfl) ⟨_, rfl, ?_⟩
   exact .inr ⟨fun h => h10 h.2, rfl, H⟩
 ·skip
  refine s_val (r_move rfl) ?_
  refine g_no rfl rfl (by decide) ?_
  refine g_no rfl rfl (by decide) ?_
  refine g_no rfl rfl (by decide) ?_
  refine s_val (r_pickf rfl rfl) ?_
  refine s_val (r_assign rfl) ?_
  refine c_nil (l' := [_,_,_,_,_,_,_,_,_,_,_,_]) rfl ?_
  refine wp_ret ?_
  refine e_ret (res1 rfl rfl) ⟨_, rfl, ?_⟩
  exact .inr ⟨fun h => h6 h.1, rfl, H⟩

set_option maxHeartbeats 4000000 in
theorem placeok_spec (a b c : Int) (w0 : World) :
  Calls Try.prog 56 #[.agg (plV a b c).toArray] w0 fun e w => ∃ v, e = .returned v ∧ (((inM a 15 ∧ inM b 7 ∧ inM c 255) ∧ v = .bool true ∧ St w0 [] w []) ∨ (¬ (inM a 15 ∧ inM b 7 ∧ inM c 255) ∧ v = .bool false ∧ St w0 [] w [])) := by
 have H := St.refl w0
 refine c_enter (args := [.agg (plV a b c).toArray]) (l := [.agg (plV a b c).toArray, undef, undef, undef, undef, undef, undef, undef, undef, undef, undef, undef, undef, undef, undef, undef]) Try.func56 Try.ntmps56 rfl rfl ?_
 refine c_rseq (n := 16) ⟨rfl, rfl⟩ ?_
 refine s_new (m_box (cs := (plV a b c)) H rfl rfl) ?_
 intro w b1 H
 refine s_val (r_assign rfl) ?_
 refine c_nil (l' := [_,_,_,_,_,_,_,_,_,_,_,_,_,_,_,_]) rfl ?_
 refine c_rseq (n := 16) ⟨rfl, rfl⟩ ?_
 refine s_val (r_fieldAddr (k := 0) Try.runUnderlying38 rfl Try.sizeOf3 (by decide) rfl rfl) ?_
 refine s_val (r_load1 Try.isAgg3 rfl (H.at 0 rfl) rfl) ?_
 refine s_call (r_call Try.call45 (ec rfl (ec rfl en))) (within_spec _ _ _) ?_
 rintro v w (⟨hy5, rfl, HC⟩ | ⟨hy5, rfl, HC⟩)
 ·skip
  replace H := H.quiet HC
  refine s_val (r_move rfl) ?_
  refine g_yes rfl rfl ?_
  refine s_val (r_fieldAddr (k := 1) Try.runUnderlying38 rfl Try.sizeOf3 (by decide) rfl rfl) ?_
  refine g_yes rfl rfl ?_
  refine s_val (r_load1 Try.isAgg3 rfl (H.at 0 rfl) rfl) ?_
  refine g_yes rfl rfl ?_
  refine s_call (r_call Try.call45 (ec rfl (ec rfl en))) (within_spec _ _ _) ?_
  rintro v w (⟨hy9, rfl, HC⟩ | ⟨hy9, rfl, HC⟩)
  ·skip
   replace H := H.quiet HC
   refine s_val (r_pickt rfl rfl) ?_
   refine s_val (r_move rfl) ?_
   refine g_yes rfl rfl ?_
   refine s_val (r_fieldAddr (k := 2) Try.runUnderlying38 rfl Try.sizeOf3 (by decide) rfl rfl) ?_
   refine g_yes rfl rfl ?_
   refine s_val (r_load1 Try.isAgg3 rfl (H.at 0 rfl) rfl) ?_
   refine g_yes rfl rfl ?_
   refine s_call (r_call Try.call45 (ec rfl (ec rfl en))) (within_spec _ _ _) ?_
   rintro v w (⟨hy14, rfl, HC⟩ | ⟨hy14, rfl, HC⟩)
   ·skip
    replace H := H.quiet HC
    refine s_val (r_pickt rfl rfl) ?_
    refine s_val (r_assign rfl) ?_
    refine c_nil (l' := [_,_,_,_,_,_,_,_,_,_,_,_,_,_,_,_]) rfl ?_
    refine wp_ret ?_
    refine e_ret (res1 rfl rfl) ⟨_, rfl, ?_⟩
    exact .inl ⟨⟨hy5, hy9, hy14⟩, rfl, H.sub (List.nil_sublist _)⟩
   ·skip
    replace H := H.quiet HC
    refine s_val (r_pickt rfl rfl) ?_
    refine s_val (r_assign rfl) ?_
    refine c_nil (l' := [_,_,_,_,_,_,_,_,_,_,_,_,_,_,_,_]) rfl ?_
    refine wp_ret ?_
    refine e_ret (res1 rfl rfl) ⟨_, rfl, ?_⟩
    exact .inr ⟨fun h => hy14 h.2.2, rfl, H.sub (List.nil_sublist _)⟩
  ·skip
   replace H := H.quiet HC
   refine s_val (r_pickt rfl rfl) ?_
   refine s_val (r_move rfl) ?_
   refine g_no rfl rfl (by decide) ?_
   refine g_no rfl rfl (by decide) ?_
   refine g_no rfl rfl (by decide) ?_
   refine s_val (r_pickf rfl rfl) ?_
   refine s_val (r_assign rfl) ?_
   refine c_nil (l' := [_,_,_,_,_,_,_,_,_,_,_,_,_,_,_,_]) rfl ?_
   refine wp_ret ?_
   refine e_ret (res1 rfl rfl) ⟨_, rfl, ?_⟩
   exact .inr ⟨fun h => hy9 h.2.1, rfl, H.sub (List.nil_sublist _)⟩
 ·skip
  replace H := H.quiet HC
  refine s_val (r_move rfl) ?_
  refine g_no rfl rfl (by decide) ?_
  refine g_no rfl rfl (by decide) ?_
  refine g_no rfl rfl (by decide) ?_
  refine s_val (r_pickf rfl rfl) ?_
  refine s_val (r_move rfl) ?_
  refine g_no rfl rfl (by decide) ?_
  refine g_no rfl rfl (by decide) ?_
  refine g_no rfl rfl (by decide) ?_
  refine s_val (r_pickf rfl rfl) ?_
  refine s_val (r_assign rfl) ?_
  refine c_nil (l' := [_,_,_,_,_,_,_,_,_,_,_,_,_,_,_,_]) rfl ?_
  refine wp_ret ?_
  refine e_ret (res1 rfl rfl) ⟨_, rfl, ?_⟩
  exact .inr ⟨fun h => hy5 h.1, rfl, H.sub (List.nil_sublist _)⟩

set_option maxHeartbeats 4000000 in
theorem equalb_spec (x y : Bd) (w0 : World) (hx : BRow w0 x.a x.b) (hy : BRow w0 y.a y.b) :
  Calls Try.prog 55 #[bdV x, bdV y] w0 fun e w => ∃ v, e = .returned v ∧ (((x.b = y.b) ∧ v = .bool true ∧ St w0 [] w []) ∨ (¬ (x.b = y.b) ∧ v = .bool false ∧ St w0 [] w [])) := by
 have H := St.refl w0
 refine c_enter (args := [bdV x, bdV y]) (l := [bdV x, bdV y, undef, undef, undef, undef, undef, undef, undef, undef]) Try.func55 Try.ntmps55 rfl rfl ?_
 refine c_rseq (n := 10) ⟨rfl, rfl⟩ ?_
 refine s_val (r_assign rfl) ?_
 refine c_nil (l' := [_,_,_,_,_,_,_,_,_,_]) rfl ?_
 refine c_rseq (n := 10) ⟨rfl, rfl⟩ ?_
 refine s_val (r_move rfl) ?_
 refine s_val (r_textB Try.runUnderlying25 Try.runUnderlying9 Try.runUnderlying5 (a := x.a) (c := x.c) (bs := x.b) rfl (hx.st H)) ?_
 refine s_val (r_move rfl) ?_
 refine s_val (r_textB Try.runUnderlying25 Try.runUnderlying9 Try.runUnderlying5 (a := y.a) (c := y.c) (bs := y.b) rfl (hy.st H)) ?_
 refine s_test (r_eqlT (s := x.b) (t := y.b) rfl rfl) (fun h9 => ?_) (fun h9 => ?_)
 ·skip
  refine s_val (r_assign rfl) ?_
  refine c_nil (l' := [_,_,_,_,_,_,_,_,_,_]) rfl ?_
  refine wp_ret ?_
  refine e_ret (res1 rfl rfl) ⟨_, rfl, ?_⟩
  exact .inl ⟨h9, rfl, H⟩
 ·skip
  refine s_val (r_assign rfl) ?_
  refine c_nil (l' := [_,_,_,_,_,_,_,_,_,_]) rfl ?_
  refine wp_ret ?_
  refine e_ret (res1 rfl rfl) ⟨_, rfl, ?_⟩
  exact .inr ⟨h9, rfl, H⟩

set_option maxHeartbeats 4000000 in
theorem bclone_y (y : Bd) (hl : y.b.length ≤ 1000000) (w0 : World) (hy : BRow w0 y.a y.b) :
  Calls Try.prog 29 #[bdV y] w0 fun e w => ∃ v, e = .returned v ∧ (∃ a' c' N', v = .slice a' y.b.length c' ∧ RowN 1 5 (bC y.b) y.b.length a' c' N' ∧ St w0 [] w N') := by
 have H := St.refl w0
 refine c_enter (args := [bdV y]) (l := [bdV y, undef, undef, undef, undef, undef, undef, undef]) Try.func29 Try.ntmps29 rfl rfl ?_
 refine c_rseq (n := 8) ⟨rfl, rfl⟩ ?_
 refine s_val (r_assign rfl) ?_
 refine c_nil (l' := [_,_,_,_,_,_,_,_]) rfl ?_
 refine c_seq ?_
 refine c_rseq (n := 8) ⟨rfl, rfl⟩ ?_
 refine s_val (r_move rfl) ?_
 refine s_val (r_nils Try.runUnderlying25 rfl rfl) ?_
 refine c_nil (l' := [_,_,_,_,_,_,_,_]) rfl ?_
 refine c_ifb rfl (fun h4 => ?_) (fun h4 => ?_)
 ·skip
  refine c_rseq (n := 8) ⟨rfl, rfl⟩ ?_
  refine s_val (r_assign rfl) ?_
  refine c_nil (l' := [_,_,_,_,_,_,_,_]) rfl ?_
  refine wp_ret (x_thenRet ?_)
  refine e_ret (res1 rfl rfl) ⟨_, rfl, ?_⟩
  have hbn : y.b = [] := by
   rcases hq : y.b with _ | ⟨u, us⟩
   ·rfl
   ·obtain ⟨b, off, _,_,_,_, e, _⟩ := hy (by rw [hq]; simp)
    rw [e] at h4; cases h4
  rw [hbn]
  exact ⟨_,_,_, rfl, RowN.nil, H⟩
 ·skip
  refine wp_skip ?_
  refine x_thenNormal ?_
  refine c_rseq (n := 8) ⟨rfl, rfl⟩ ?_
  refine s_new (m_bslice0 H Try.runUnderlying25 Try.sizeOf5) ?_
  intro w b5 H
  refine s_val (r_move rfl) ?_
  refine s_any (m_append_lit H Try.runUnderlying25 Try.runUnderlying25 (fun _ h => nomatch h) Try.sizeOf5 Try.zeroValue5 rfl Try.typeInfo5 (by rw [bytes5]; omega) (by rw [bytes5]; omega) (ec rfl (ec rfl en)) ((hy.st H).src _)) ?_
  rintro v w ⟨ao, co, No, rfl, hNo, H⟩
  skip
  refine s_val (r_assign rfl) ?_
  refine c_nil (l' := [_,_,_,_,_,_,_,_]) rfl ?_
  refine wp_ret ?_
  refine e_ret (res1 rfl rfl) ⟨_, rfl, ?_⟩
  rw [List.append_nil] at H
  exact ⟨_,_,_, rfl, hNo, H⟩

theorem bclone_spec (a : Option Addr) (n c : Nat) (xs : List UInt8) (hn : n = xs.length) (hl : xs.length ≤ 1000000) (w0 : World) (hy : BRow w0 a xs) :
  Calls Try.prog 29 #[.slice a n c] w0 fun e w => ∃ v, e = .returned v ∧ ∃ a' c' N', v = .slice a' xs.length c' ∧ RowN 1 5 (bC xs) xs.length a' c' N' ∧ St w0 [] w N' := by
 subst hn
 exact bclone_y ⟨a, xs, c⟩ hl w0 hy

end Go.Proofs.Ytihpeihlpgompaa

