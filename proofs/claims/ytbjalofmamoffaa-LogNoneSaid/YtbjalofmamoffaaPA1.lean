import Derived.Test.YtbjalofmamoffaaProg
import Derived.Test.YtbjalofmamoffaaPV1
namespace Go.Proofs.Ytbjalofmamoffaa
open Go Go.Er
theorem bytes5 : Try.t5.bytes = 1 := rfl

theorem shrN {n : Int} {k : Nat} (h : k ≤ 64) : n.fdiv (2 ^ min ((k : Nat) : Int).toNat IntKind.u64.bits) = n / 2 ^ k := by
  have e : min ((k : Nat) : Int).toNat IntKind.u64.bits = k := Nat.min_eq_left h
  rw [e, Int.fdiv_eq_ediv_of_nonneg _ (Int.le_of_lt (Int.pow_pos (by omega)))]

set_option maxHeartbeats 4000000 in
theorem put_spec (n : Int) (size : Nat) (_h0 : 0 ≤ n) (_h1 : n < 18446744073709551616) (hs : 1 ≤ size) (hs8 : size ≤ 8) (w0 : World) :
    Calls Try.prog 58 #[.int .u64 n, .int .i64 size] w0 fun e w => ∃ v, e = .returned v ∧ (∃ b, v = .slice (some ⟨b, 0, none⟩) size size ∧ St w0 [] w [(b, .cells (bC (putB n size)).toArray 5 (0, 0))]) := by
  have H := St.refl w0
  refine c_enter (args := [.int .u64 n, .int .i64 size]) (l := [.int .u64 n, .int .i64 size, undef, undef, undef, undef, undef, undef, undef, undef, undef, undef, undef, undef, undef, undef, undef, undef, undef, undef, undef, undef, undef, undef, undef, undef, undef, undef, undef, undef, undef, undef, undef, undef]) Try.func58 Try.ntmps58 rfl rfl ?_
  refine c_rseq (n := 34) ⟨rfl, rfl⟩ ?_
  refine s_val (r_assign rfl) ?_
  refine c_nil (l' := [_,_,_,_,_,_,_,_,_,_,_,_,_,_,_,_,_,_,_,_,_,_,_,_,_,_,_,_,_,_,_,_,_,_]) rfl ?_
  refine c_seq ?_
  refine c_rseq (n := 34) ⟨rfl, rfl⟩ ?_
  refine s_val (r_move rfl) ?_
  refine s_test (r_lss rfl rfl) (fun h8 => ?_) (fun h8 => ?_)
  · skip
    exfalso; omega
  · skip
    refine s_val (r_move rfl) ?_
    refine g_yes rfl rfl ?_
    refine s_val (r_move rfl) ?_
    refine g_yes rfl rfl ?_
    refine s_val (r_gtr rfl rfl) ?_
    refine s_val (r_pickf rfl rfl) ?_
    refine c_nil (l' := [_,_,_,_,_,_,_,_,_,_,_,_,_,_,_,_,_,_,_,_,_,_,_,_,_,_,_,_,_,_,_,_,_,_]) rfl ?_
    refine c_if rfl (fun h12 => ?_) (fun h12 => ?_)
    · skip
      exfalso; omega
    · skip
      refine wp_skip ?_
      refine x_thenNormal ?_
      refine c_rseq (n := 34) ⟨rfl, rfl⟩ ?_
      refine s_val (r_move rfl) ?_
      refine s_new (m_make (nb := 1) (v := .int .u8 0) H Try.underlying40 (by kernel_rfl) rfl rfl rfl rfl rfl (by omega) (by omega)) ?_
      intro w b H
      refine s_val (r_assign rfl) ?_
      refine c_nil (l' := [_,_,_,_,_,_,_,_,_,_,_,_,_,_,_,_,_,_,_,_,_,_,_,_,_,_,_,_,_,_,_,_,_,_]) rfl ?_
      refine c_seq ?_
      refine c_rseq (n := 34) ⟨rfl, rfl⟩ ?_
      refine s_val (r_move rfl) ?_
      refine s_val (r_lens Try.runUnderlying40 (ec rfl en)) ?_
      refine s_val (r_move rfl) ?_
      refine c_nil (l' := [_,_,_,_,_,_,_,_,_,_,_,_,_,_,_,_,_,_,_,_,_,_,_,_,_,_,_,_,_,_,_,_,_,_]) rfl ?_
      refine wp_block ?_
      refine c_loop (fun (l0 : List Value) (i : Nat) (l : List Value) (w : World) => ∃ (u6 u18 u19 u20 u21 u22 u23 u24 u25 u26 u27 u28 u29 u30 u31 u32 : Value) , l = ovr l0 [N_, N_, N_, N_, N_, N_, Y_ u6, N_, N_, N_, N_, N_, N_, N_, N_, N_, N_, Y_ (.int .i64 i), Y_ u18, Y_ u19, Y_ u20, Y_ u21, Y_ u22, Y_ u23, Y_ u24, Y_ u25, Y_ u26, Y_ u27, Y_ u28, Y_ u29, Y_ u30, Y_ u31, Y_ u32] ∧ i ≤ size ∧ St w0 [] w [(b, .cells (bC (mix (putB n size) (List.replicate size 0) i)).toArray 5 (0, 0))]) (fun (i : Nat) => size - i) 0 ⟨_,_,_,_,_,_,_,_,_,_,_,_,_,_,_,_, rfl, by omega, (by rw [mix_zero]; simpa [bC] using H)⟩ ?_
      intro i l w ⟨u6, u18, u19, u20, u21, u22, u23, u24, u25, u26, u27, u28, u29, u30, u31, u32, hl, hi, H⟩
      obtain rfl := hl.trans (rfl : _ = [_,_,_,_,_,_,_,_,_,_,_,_,_,_,_,_,_,_,_,_,_,_,_,_,_,_,_,_,_,_,_,_,_,_])
      clear hl
      refine c_rseq (n := 34) ⟨rfl, rfl⟩ ?_
      refine s_val (r_lss rfl rfl) ?_
      refine c_nil (l' := [_,_,_,_,_,_,_,_,_,_,_,_,_,_,_,_,_,_,_,_,_,_,_,_,_,_,_,_,_,_,_,_,_,_]) rfl ?_
      refine c_seq ?_
      refine c_if rfl (fun h18 => ?_) (fun h18 => ?_)
      · skip
        refine wp_skip ?_
        refine x_thenNormal ?_
        refine c_seq ?_
        refine wp_block ?_
        refine c_rseq (n := 34) ⟨rfl, rfl⟩ ?_
        refine s_val (r_move rfl) ?_
        refine s_val (r_assign rfl) ?_
        refine c_nil (l' := [_,_,_,_,_,_,_,_,_,_,_,_,_,_,_,_,_,_,_,_,_,_,_,_,_,_,_,_,_,_,_,_,_,_]) rfl ?_
        refine c_region (n := 34) ⟨rfl, rfl⟩ ?_
        refine s_val (r_move rfl) ?_
        refine s_val (r_move rfl) ?_
        refine s_val (r_move rfl) ?_
        refine s_val (r_move rfl) ?_
        refine s_val (r_sub rfl rfl (w_i64 (by omega) (by omega))) ?_
        refine s_val (r_move rfl) ?_
        refine s_val (r_sub rfl rfl (w_i64e (r := ((size - 1 - i : Nat) : Int)) (by omega) (by omega) (by omega))) ?_
        refine s_val (r_conv Try.runUnderlying3 Try.runUnderlying147 rfl (w_u64 (by omega) (by omega))) ?_
        refine s_val (r_mul rfl rfl (w_u64e (r := ((8 * (size - 1 - i) : Nat) : Int)) (by omega) (by omega) (by omega))) ?_
        refine s_val (r_shr rfl rfl (by omega) (shrN (by omega))) ?_
        refine s_val (r_conv Try.runUnderlying36 Try.runUnderlying5 rfl (w_u8' _)) ?_
        refine s_val (r_indexAddrS Try.runUnderlying40 Try.sizeOf5 rfl rfl (by omega) (by omega)) ?_
        refine s_st (m_store1 H 0 Try.sizeOf5 rfl rfl rfl rfl (by rw [bC_length, mix_length _ _ (by rw [putB_length, List.length_replicate]), List.length_replicate]; omega) (mix_set _ _ i (by rw [putB_length, List.length_replicate]) (by simp; omega) (by omega) (putB_get _ _ (by omega)).symm)) (L' := [_]) rfl ?_
        intro w H
        refine c_nil0 (l' := [_,_,_,_,_,_,_,_,_,_,_,_,_,_,_,_,_,_,_,_,_,_,_,_,_,_,_,_,_,_,_,_,_,_]) rfl ?_
        refine x_blockNormal ?_
        refine x_thenNormal ?_
        refine c_region (n := 34) ⟨rfl, rfl⟩ ?_
        refine s_val (r_add rfl rfl (w_i64 (by omega) (by omega))) ?_
        refine s_val (r_move rfl) ?_
        refine c_nil0 (l' := [_,_,_,_,_,_,_,_,_,_,_,_,_,_,_,_,_,_,_,_,_,_,_,_,_,_,_,_,_,_,_,_,_,_]) rfl ?_
        exact ⟨i + 1, _, rfl, ⟨_,_,_,_,_,_,_,_,_,_,_,_,_,_,_,_, rfl, by omega, H⟩, by omega⟩
      · skip
        obtain rfl : i = size := by omega
        rw [mix_all _ _ (putB_length _ _) (by simp)] at H
        refine wp_exit (x_thenExit (x_thenExit (x_blockHit ?_)))
        refine x_thenNormal ?_
        refine c_rseq (n := 34) ⟨rfl, rfl⟩ ?_
        refine s_val (r_move rfl) ?_
        refine s_val (r_assign rfl) ?_
        refine c_nil (l' := [_,_,_,_,_,_,_,_,_,_,_,_,_,_,_,_,_,_,_,_,_,_,_,_,_,_,_,_,_,_,_,_,_,_]) rfl ?_
        refine wp_ret ?_
        refine e_ret (res1 rfl rfl) ⟨_, rfl, ?_⟩
        exact ⟨_, rfl, H⟩

set_option maxHeartbeats 4000000 in
theorem get_spec (a : Option Addr) (cap : Nat) (bs : List UInt8) (h1 : 1 ≤ bs.length) (h8 : bs.length ≤ 8) (w0 : World) (hr : BRow w0 a bs) :
    Calls Try.prog 66 #[.slice a bs.length cap] w0 fun e w => ∃ v, e = .returned v ∧ (v = .tuple #[.int .u64 (getN bs), .bool true] ∧ St w0 [] w []) := by
  have H := St.refl w0
  refine c_enter (args := [.slice a bs.length cap]) (l := [.slice a bs.length cap, undef, undef, undef, undef, undef, undef, undef, undef, undef, undef, undef, undef, undef, undef, undef, undef, undef, undef, undef, undef, undef, undef, undef, undef, undef, undef, undef]) Try.func66 Try.ntmps66 rfl rfl ?_
  refine c_rseq (n := 28) ⟨rfl, rfl⟩ ?_
  refine s_val (r_assign rfl) ?_
  refine s_val (r_assign rfl) ?_
  refine c_nil (l' := [_,_,_,_,_,_,_,_,_,_,_,_,_,_,_,_,_,_,_,_,_,_,_,_,_,_,_,_]) rfl ?_
  refine c_seq ?_
  refine c_rseq (n := 28) ⟨rfl, rfl⟩ ?_
  refine s_val (r_move rfl) ?_
  refine s_val (r_lens Try.runUnderlying40 (ec rfl en)) ?_
  refine s_test (r_lss rfl rfl) (fun h9 => ?_) (fun h9 => ?_)
  · skip
    exfalso; omega
  · skip
    refine s_val (r_move rfl) ?_
    refine g_yes rfl rfl ?_
    refine s_val (r_move rfl) ?_
    refine g_yes rfl rfl ?_
    refine s_val (r_lens Try.runUnderlying40 (ec rfl en)) ?_
    refine g_yes rfl rfl ?_
    refine s_val (r_gtr rfl rfl) ?_
    refine s_val (r_pickf rfl rfl) ?_
    refine c_nil (l' := [_,_,_,_,_,_,_,_,_,_,_,_,_,_,_,_,_,_,_,_,_,_,_,_,_,_,_,_]) rfl ?_
    refine c_if rfl (fun h14 => ?_) (fun h14 => ?_)
    · skip
      exfalso; omega
    · skip
      refine wp_skip ?_
      refine x_thenNormal ?_
      refine c_rseq (n := 28) ⟨rfl, rfl⟩ ?_
      refine s_val (r_assign rfl) ?_
      refine c_nil (l' := [_,_,_,_,_,_,_,_,_,_,_,_,_,_,_,_,_,_,_,_,_,_,_,_,_,_,_,_]) rfl ?_
      refine c_seq ?_
      refine c_rseq (n := 28) ⟨rfl, rfl⟩ ?_
      refine s_val (r_move rfl) ?_
      refine s_val (r_lens Try.runUnderlying40 (ec rfl en)) ?_
      refine s_val (r_move rfl) ?_
      refine c_nil (l' := [_,_,_,_,_,_,_,_,_,_,_,_,_,_,_,_,_,_,_,_,_,_,_,_,_,_,_,_]) rfl ?_
      refine wp_block ?_
      refine c_loop (fun (l0 : List Value) (i : Nat) (l : List Value) (w : World) => ∃ (u6 u18 u19 u20 u21 u22 u23 u24 u25 u26 : Value) , l = ovr l0 [N_, N_, N_, N_, Y_ (.int .u64 (getN (bs.take i))), N_, Y_ u6, N_, N_, N_, N_, N_, N_, N_, N_, N_, N_, Y_ (.int .i64 i), Y_ u18, Y_ u19, Y_ u20, Y_ u21, Y_ u22, Y_ u23, Y_ u24, Y_ u25, Y_ u26] ∧ i ≤ bs.length ∧ St w0 [] w []) (fun (i : Nat) => bs.length - i) 0 ⟨_,_,_,_,_,_,_,_,_,_, rfl, by omega, H⟩ ?_
      intro i l w ⟨u6, u18, u19, u20, u21, u22, u23, u24, u25, u26, hl, hi, H⟩
      obtain rfl := hl.trans (rfl : _ = [_,_,_,_,_,_,_,_,_,_,_,_,_,_,_,_,_,_,_,_,_,_,_,_,_,_,_,_])
      clear hl
      refine c_rseq (n := 28) ⟨rfl, rfl⟩ ?_
      refine s_val (r_lss rfl rfl) ?_
      refine c_nil (l' := [_,_,_,_,_,_,_,_,_,_,_,_,_,_,_,_,_,_,_,_,_,_,_,_,_,_,_,_]) rfl ?_
      refine c_seq ?_
      refine c_if rfl (fun h18 => ?_) (fun h18 => ?_)
      · skip
        refine wp_skip ?_
        refine x_thenNormal ?_
        refine c_seq ?_
        refine wp_block ?_
        refine c_rseq (n := 28) ⟨rfl, rfl⟩ ?_
        obtain ⟨bb, off, pre, post, T, fz, rfl, hb, hp⟩ := hr (by omega)
        refine s_val (r_indexAddrS Try.runUnderlying40 Try.sizeOf5 rfl rfl (by omega) (by omega)) ?_
        refine s_val (r_load1 Try.isAgg5 rfl (H.rd0 hb) (bs_getE _ bs _ i hp (by omega) (by omega))) ?_
        refine s_val (r_assign rfl) ?_
        refine c_nil (l' := [_,_,_,_,_,_,_,_,_,_,_,_,_,_,_,_,_,_,_,_,_,_,_,_,_,_,_,_]) rfl ?_
        refine c_region (n := 28) ⟨rfl, rfl⟩ ?_
        refine s_val (r_move rfl) ?_
        have hgn := getN_lt bs (i := i) (by omega)
        refine s_val (r_shl rfl rfl (by omega) (shl8 (by omega) (by omega))) ?_
        refine s_val (r_move rfl) ?_
        refine s_val (r_conv Try.runUnderlying5 Try.runUnderlying36 rfl (w_u64 (by omega) (by have := (bs.getD i 0).toNat_lt; omega))) ?_
        refine s_val (r_or rfl rfl ((or_step (by omega) (by omega)).trans (getN_take (by omega)).symm)) ?_
        refine s_val (r_assign rfl) ?_
        refine c_nil0 (l' := [_,_,_,_,_,_,_,_,_,_,_,_,_,_,_,_,_,_,_,_,_,_,_,_,_,_,_,_]) rfl ?_
        refine x_blockNormal ?_
        refine x_thenNormal ?_
        refine c_region (n := 28) ⟨rfl, rfl⟩ ?_
        refine s_val (r_add rfl rfl (w_i64 (by omega) (by omega))) ?_
        refine s_val (r_move rfl) ?_
        refine c_nil0 (l' := [_,_,_,_,_,_,_,_,_,_,_,_,_,_,_,_,_,_,_,_,_,_,_,_,_,_,_,_]) rfl ?_
        exact ⟨i + 1, _, rfl, ⟨_,_,_,_,_,_,_,_,_,_, rfl, by omega, H⟩, by omega⟩
      · skip
        obtain rfl : i = bs.length := by omega
        refine wp_exit (x_thenExit (x_thenExit (x_blockHit ?_)))
        refine x_thenNormal ?_
        refine c_rseq (n := 28) ⟨rfl, rfl⟩ ?_
        refine s_val (r_move rfl) ?_
        refine s_val (r_assign rfl) ?_
        refine s_val (r_assign rfl) ?_
        refine c_nil (l' := [_,_,_,_,_,_,_,_,_,_,_,_,_,_,_,_,_,_,_,_,_,_,_,_,_,_,_,_]) rfl ?_
        refine wp_ret ?_
        refine e_ret (res2 rfl rfl rfl) ⟨_, rfl, ?_⟩
        exact ⟨by rw [List.take_length], H⟩

set_option maxHeartbeats 4000000 in
theorem cloneb_spec (a : Addr) (cap n : Nat) (bs : List UInt8) (hn : n = bs.length) (hl : bs.length ≤ 1000000) (w0 : World) (hr : BRow w0 (some a) bs) :
    Calls Try.prog 67 #[.slice (some a) n cap] w0 fun e w => ∃ v, e = .returned v ∧ (∃ a' cap' N, v = .slice a' bs.length cap' ∧ RowN 1 5 (bC bs) bs.length a' cap' N ∧ St w0 [] w N) := by
  have H := St.refl w0
  refine c_enter (args := [.slice (some a) n cap]) (l := [.slice (some a) n cap, undef, undef, undef, undef, undef, undef, undef]) Try.func67 Try.ntmps67 rfl rfl ?_
  refine c_rseq (n := 8) ⟨rfl, rfl⟩ ?_
  refine s_val (r_assign rfl) ?_
  refine c_nil (l' := [_,_,_,_,_,_,_,_]) rfl ?_
  refine c_seq ?_
  refine c_rseq (n := 8) ⟨rfl, rfl⟩ ?_
  subst hn
  refine s_val (r_move rfl) ?_
  refine s_val (r_nils Try.runUnderlying40 rfl rfl) ?_
  refine c_nil (l' := [_,_,_,_,_,_,_,_]) rfl ?_
  refine c_iff rfl ?_
  refine wp_skip ?_
  refine x_thenNormal ?_
  refine c_rseq (n := 8) ⟨rfl, rfl⟩ ?_
  refine s_new (m_bslice0 H Try.runUnderlying40 Try.sizeOf5) ?_
  intro w b5 H
  refine s_val (r_move rfl) ?_
  refine s_any (m_append_lit H Try.runUnderlying40 Try.runUnderlying40 (fun _ h => nomatch h) Try.sizeOf5 Try.zeroValue5 rfl Try.typeInfo5 (by rw [bytes5]; omega) (by rw [bytes5]; omega) (ec rfl (ec rfl en)) ((hr.st H).src _)) ?_
  rintro v w ⟨ao, co, No, rfl, hNo, H⟩
  skip
  refine s_val (r_assign rfl) ?_
  refine c_nil (l' := [_,_,_,_,_,_,_,_]) rfl ?_
  refine wp_ret ?_
  refine e_ret (res1 rfl rfl) ⟨_, rfl, ?_⟩
  rw [List.append_nil] at H
  exact ⟨_,_,_, rfl, hNo, H⟩

set_option maxHeartbeats 4000000 in
theorem litsum_spec (k : Key) (a : Option Addr) (cap : Nat) (bs : List UInt8) (hl : bs.length ≤ 1000000) (w0 : World) (hr : BRow w0 a bs) :
    Calls Try.prog 118 #[.agg (kC k).toArray, .slice a bs.length cap] w0 fun e w => ∃ v, e = .returned v ∧ (v = .agg (kC (litSum k bs)).toArray ∧ St w0 [] w []) := by
  have H := St.refl w0
  refine c_enter (args := [.agg (kC k).toArray, .slice a bs.length cap]) (l := [.agg (kC k).toArray, .slice a bs.length cap, undef, undef, undef, undef, undef, undef, undef, undef, undef, undef, undef, undef, undef, undef, undef, undef, undef, undef, undef, undef, undef, undef, undef, undef, undef, undef, undef, undef, undef, undef, undef, undef, undef, undef, undef, undef, undef, undef, undef, undef, undef, undef, undef, undef, undef, undef, undef, undef, undef, undef]) Try.func118 Try.ntmps118 rfl rfl ?_
  refine c_rseq (n := 52) ⟨rfl, rfl⟩ ?_
  refine s_new (m_box (cs := (kC k)) H rfl rfl) ?_
  intro w b2 H
  refine s_new (m_alloc (cs := (kC (By.zero 16))) H Try.zeroValue135 rfl) ?_
  intro w b4 H
  refine c_nil (l' := [_,_,_,_,_,_,_,_,_,_,_,_,_,_,_,_,_,_,_,_,_,_,_,_,_,_,_,_,_,_,_,_,_,_,_,_,_,_,_,_,_,_,_,_,_,_,_,_,_,_,_,_]) rfl ?_
  refine c_rseq (n := 52) ⟨rfl, rfl⟩ ?_
  refine s_val (r_move rfl) ?_
  refine s_val (r_lens Try.runUnderlying40 (ec rfl en)) ?_
  refine s_val (r_conv Try.runUnderlying3 Try.runUnderlying36 rfl (w_u64 (by omega) (by omega))) ?_
  refine s_val (r_assign rfl) ?_
  refine c_nil (l' := [_,_,_,_,_,_,_,_,_,_,_,_,_,_,_,_,_,_,_,_,_,_,_,_,_,_,_,_,_,_,_,_,_,_,_,_,_,_,_,_,_,_,_,_,_,_,_,_,_,_,_,_]) rfl ?_
  refine c_seq ?_
  refine c_rseq (n := 52) ⟨rfl, rfl⟩ ?_
  refine s_val (r_assign rfl) ?_
  refine c_nil (l' := [_,_,_,_,_,_,_,_,_,_,_,_,_,_,_,_,_,_,_,_,_,_,_,_,_,_,_,_,_,_,_,_,_,_,_,_,_,_,_,_,_,_,_,_,_,_,_,_,_,_,_,_]) rfl ?_
  refine wp_block ?_
  refine c_loop (fun (l0 : List Value) (i : Nat) (l : List Value) (w : World) => ∃ (u13 u14 u15 u16 u17 u18 u19 u20 u21 u22 u23 : Value) , l = ovr l0 [N_, N_, N_, N_, N_, Y_ (.int .u64 (lsK k.1 bs.length i)), Y_ (.int .i64 i), N_, N_, N_, N_, N_, N_, Y_ u13, Y_ u14, Y_ u15, Y_ u16, Y_ u17, Y_ u18, Y_ u19, Y_ u20, Y_ u21, Y_ u22, Y_ u23] ∧ i ≤ 32 ∧ St w0 [] w [(b4, .cells (kC (By.zero 16)).toArray 135 (0, 0)), (b2, .cells (kC k).toArray 69 (0, 0))]) (fun (i : Nat) => 32 - i) 0 ⟨_,_,_,_,_,_,_,_,_,_,_, rfl, by omega, H⟩ ?_
  intro i l w ⟨u13, u14, u15, u16, u17, u18, u19, u20, u21, u22, u23, hl, hi, H⟩
  obtain rfl := hl.trans (rfl : _ = [_,_,_,_,_,_,_,_,_,_,_,_,_,_,_,_,_,_,_,_,_,_,_,_,_,_,_,_,_,_,_,_,_,_,_,_,_,_,_,_,_,_,_,_,_,_,_,_,_,_,_,_])
  clear hl
  refine c_seq ?_
  refine c_rseq (n := 52) ⟨rfl, rfl⟩ ?_
  refine s_val (r_move rfl) ?_
  refine s_val (r_lss rfl rfl) ?_
  refine c_nil (l' := [_,_,_,_,_,_,_,_,_,_,_,_,_,_,_,_,_,_,_,_,_,_,_,_,_,_,_,_,_,_,_,_,_,_,_,_,_,_,_,_,_,_,_,_,_,_,_,_,_,_,_,_]) rfl ?_
  refine c_if rfl (fun h14 => ?_) (fun h14 => ?_)
  · skip
    refine wp_skip ?_
    refine x_thenNormal ?_
    refine c_seq ?_
    refine wp_block ?_
    refine c_region (n := 52) ⟨rfl, rfl⟩ ?_
    refine s_val (r_move rfl) ?_
    refine s_val (r_move rfl) ?_
    refine s_val (r_indexAddrA Try.runUnderlying69 Try.sizeOf5 rfl rfl (by omega) (by omega)) ?_
    refine s_val (r_load1 Try.isAgg5 rfl (H.at 1 rfl) (kC_byt k i (by omega) (by omega))) ?_
    have hkl := (byt k i).toNat_lt
    refine s_val (r_conv Try.runUnderlying5 Try.runUnderlying36 rfl (w_u64 (by omega) (by omega))) ?_
    refine s_val (r_add rfl rfl (w_u64' _)) ?_
    refine s_val (r_mul rfl rfl (show _ = lsK k.1 bs.length (i + 1) from w_u64' _)) ?_
    refine s_val (r_assign rfl) ?_
    refine c_nil0 (l' := [_,_,_,_,_,_,_,_,_,_,_,_,_,_,_,_,_,_,_,_,_,_,_,_,_,_,_,_,_,_,_,_,_,_,_,_,_,_,_,_,_,_,_,_,_,_,_,_,_,_,_,_]) rfl ?_
    refine x_blockNormal ?_
    refine x_thenNormal ?_
    refine c_region (n := 52) ⟨rfl, rfl⟩ ?_
    refine s_val (r_move rfl) ?_
    refine s_val (r_add rfl rfl (w_i64 (by omega) (by omega))) ?_
    refine s_val (r_assign rfl) ?_
    refine c_nil0 (l' := [_,_,_,_,_,_,_,_,_,_,_,_,_,_,_,_,_,_,_,_,_,_,_,_,_,_,_,_,_,_,_,_,_,_,_,_,_,_,_,_,_,_,_,_,_,_,_,_,_,_,_,_]) rfl ?_
    exact ⟨i + 1, _, rfl, ⟨_,_,_,_,_,_,_,_,_,_,_, rfl, by omega, H⟩, by omega⟩
  · skip
    obtain rfl : i = 32 := by omega
    refine wp_exit (x_thenExit (x_thenExit (x_blockHit ?_)))
    refine x_thenNormal ?_
    refine c_seq ?_
    refine c_rseq (n := 52) ⟨rfl, rfl⟩ ?_
    refine s_val (r_assign rfl) ?_
    refine c_nil (l' := [_,_,_,_,_,_,_,_,_,_,_,_,_,_,_,_,_,_,_,_,_,_,_,_,_,_,_,_,_,_,_,_,_,_,_,_,_,_,_,_,_,_,_,_,_,_,_,_,_,_,_,_]) rfl ?_
    refine wp_block ?_
    refine c_loop (fun (l0 : List Value) (i : Nat) (l : List Value) (w : World) => ∃ (u24 u25 u26 u27 u28 u29 u30 u31 u32 u33 u34 u35 u36 u37 u38 : Value) , l = ovr l0 [N_, N_, N_, N_, N_, Y_ (.int .u64 (lsB bs (lsK k.1 bs.length 32) i)), N_, Y_ (.int .i64 i), N_, N_, N_, N_, N_, N_, N_, N_, N_, N_, N_, N_, N_, N_, N_, N_, Y_ u24, Y_ u25, Y_ u26, Y_ u27, Y_ u28, Y_ u29, Y_ u30, Y_ u31, Y_ u32, Y_ u33, Y_ u34, Y_ u35, Y_ u36, Y_ u37, Y_ u38] ∧ i ≤ bs.length ∧ St w0 [] w [(b4, .cells (kC (By.zero 16)).toArray 135 (0, 0))]) (fun (i : Nat) => bs.length - i) 0 ⟨_,_,_,_,_,_,_,_,_,_,_,_,_,_,_, rfl, by omega, (H.sub (.cons_cons _ (.cons _ .slnil)))⟩ ?_
    intro i l w ⟨u24, u25, u26, u27, u28, u29, u30, u31, u32, u33, u34, u35, u36, u37, u38, hl, hi, H⟩
    obtain rfl := hl.trans (rfl : _ = [_,_,_,_,_,_,_,_,_,_,_,_,_,_,_,_,_,_,_,_,_,_,_,_,_,_,_,_,_,_,_,_,_,_,_,_,_,_,_,_,_,_,_,_,_,_,_,_,_,_,_,_])
    clear hl
    refine c_seq ?_
    refine c_rseq (n := 52) ⟨rfl, rfl⟩ ?_
    refine s_val (r_move rfl) ?_
    refine s_val (r_move rfl) ?_
    refine s_val (r_lens Try.runUnderlying40 (ec rfl en)) ?_
    refine s_val (r_lss rfl rfl) ?_
    refine c_nil (l' := [_,_,_,_,_,_,_,_,_,_,_,_,_,_,_,_,_,_,_,_,_,_,_,_,_,_,_,_,_,_,_,_,_,_,_,_,_,_,_,_,_,_,_,_,_,_,_,_,_,_,_,_]) rfl ?_
    refine c_if rfl (fun h27 => ?_) (fun h27 => ?_)
    · skip
      obtain ⟨bb, off, pre, post, T, fz, rfl, hb0, hp⟩ := hr (by omega)
      have hb := H.rd0 hb0
      refine wp_skip ?_
      refine x_thenNormal ?_
      refine c_seq ?_
      refine wp_block ?_
      refine c_region (n := 52) ⟨rfl, rfl⟩ ?_
      refine s_val (r_move rfl) ?_
      refine s_val (r_move rfl) ?_
      refine s_val (r_move rfl) ?_
      refine s_val (r_indexAddrS Try.runUnderlying40 Try.sizeOf5 rfl rfl (by omega) (by omega)) ?_
      refine s_val (r_load1 Try.isAgg5 rfl hb (bs_getE _ _ _ i hp (by omega) (by omega))) ?_
      have hbl := (bs.getD i 0).toNat_lt
      refine s_val (r_conv Try.runUnderlying5 Try.runUnderlying36 rfl (w_u64 (by omega) (by omega))) ?_
      refine s_val (r_add rfl rfl (w_u64' _)) ?_
      refine s_val (r_add rfl rfl (w_u64' _)) ?_
      refine s_val (r_mul rfl rfl (show _ = lsB bs (lsK k.1 bs.length 32) (i + 1) from w_u64' _)) ?_
      refine s_val (r_assign rfl) ?_
      refine c_nil0 (l' := [_,_,_,_,_,_,_,_,_,_,_,_,_,_,_,_,_,_,_,_,_,_,_,_,_,_,_,_,_,_,_,_,_,_,_,_,_,_,_,_,_,_,_,_,_,_,_,_,_,_,_,_]) rfl ?_
      refine x_blockNormal ?_
      refine x_thenNormal ?_
      refine c_region (n := 52) ⟨rfl, rfl⟩ ?_
      refine s_val (r_move rfl) ?_
      refine s_val (r_add rfl rfl (w_i64 (by omega) (by omega))) ?_
      refine s_val (r_assign rfl) ?_
      refine c_nil0 (l' := [_,_,_,_,_,_,_,_,_,_,_,_,_,_,_,_,_,_,_,_,_,_,_,_,_,_,_,_,_,_,_,_,_,_,_,_,_,_,_,_,_,_,_,_,_,_,_,_,_,_,_,_]) rfl ?_
      exact ⟨i + 1, _, rfl, ⟨_,_,_,_,_,_,_,_,_,_,_,_,_,_,_, rfl, by omega, H⟩, by omega⟩
    · skip
      obtain rfl : i = bs.length := by omega
      refine wp_exit (x_thenExit (x_thenExit (x_blockHit ?_)))
      refine x_thenNormal ?_
      refine c_rseq (n := 52) ⟨rfl, rfl⟩ ?_
      refine s_new (m_alloc (cs := (kC (By.zero 16))) H Try.zeroValue135 rfl) ?_
      intro w b8 H
      refine c_nil (l' := [_,_,_,_,_,_,_,_,_,_,_,_,_,_,_,_,_,_,_,_,_,_,_,_,_,_,_,_,_,_,_,_,_,_,_,_,_,_,_,_,_,_,_,_,_,_,_,_,_,_,_,_]) rfl ?_
      refine c_seq ?_
      refine c_rseq (n := 52) ⟨rfl, rfl⟩ ?_
      refine s_val (r_assign rfl) ?_
      refine c_nil (l' := [_,_,_,_,_,_,_,_,_,_,_,_,_,_,_,_,_,_,_,_,_,_,_,_,_,_,_,_,_,_,_,_,_,_,_,_,_,_,_,_,_,_,_,_,_,_,_,_,_,_,_,_]) rfl ?_
      refine wp_block ?_
      refine c_loop (fun (l0 : List Value) (i : Nat) (l : List Value) (w : World) => ∃ (u39 u40 u41 u42 u43 u44 u45 u46 u47 u48 u49 u50 : Value) , l = ovr l0 [N_, N_, N_, N_, N_, Y_ (.int .u64 (lsY (lsX k bs) i)), N_, N_, N_, Y_ (.int .i64 i), N_, N_, N_, N_, N_, N_, N_, N_, N_, N_, N_, N_, N_, N_, N_, N_, N_, N_, N_, N_, N_, N_, N_, N_, N_, N_, N_, N_, N_, Y_ u39, Y_ u40, Y_ u41, Y_ u42, Y_ u43, Y_ u44, Y_ u45, Y_ u46, Y_ u47, Y_ u48, Y_ u49, Y_ u50] ∧ i ≤ 16 ∧ St w0 [] w [(b8, .cells (bC (mix (litSum k bs).1 (List.replicate 16 0) i)).toArray 135 (0, 0)), (b4, .cells (kC (By.zero 16)).toArray 135 (0, 0))]) (fun (i : Nat) => 16 - i) 0 ⟨_,_,_,_,_,_,_,_,_,_,_,_, rfl, by omega, (by rw [mix_zero]; exact H)⟩ ?_
      intro i l w ⟨u39, u40, u41, u42, u43, u44, u45, u46, u47, u48, u49, u50, hl, hi, H⟩
      obtain rfl := hl.trans (rfl : _ = [_,_,_,_,_,_,_,_,_,_,_,_,_,_,_,_,_,_,_,_,_,_,_,_,_,_,_,_,_,_,_,_,_,_,_,_,_,_,_,_,_,_,_,_,_,_,_,_,_,_,_,_])
      clear hl
      refine c_seq ?_
      refine c_rseq (n := 52) ⟨rfl, rfl⟩ ?_
      refine s_val (r_move rfl) ?_
      refine s_val (r_lss rfl rfl) ?_
      refine c_nil (l' := [_,_,_,_,_,_,_,_,_,_,_,_,_,_,_,_,_,_,_,_,_,_,_,_,_,_,_,_,_,_,_,_,_,_,_,_,_,_,_,_,_,_,_,_,_,_,_,_,_,_,_,_]) rfl ?_
      refine c_if rfl (fun h40 => ?_) (fun h40 => ?_)
      · skip
        refine wp_skip ?_
        refine x_thenNormal ?_
        refine c_seq ?_
        refine wp_block ?_
        refine c_rseq (n := 52) ⟨rfl, rfl⟩ ?_
        refine s_val (r_move rfl) ?_
        refine s_val (r_mul rfl rfl (w_u64' _)) ?_
        refine s_val (r_add rfl rfl (show _ = lsY (lsX k bs) (i + 1) from w_u64' _)) ?_
        refine s_val (r_assign rfl) ?_
        refine c_nil (l' := [_,_,_,_,_,_,_,_,_,_,_,_,_,_,_,_,_,_,_,_,_,_,_,_,_,_,_,_,_,_,_,_,_,_,_,_,_,_,_,_,_,_,_,_,_,_,_,_,_,_,_,_]) rfl ?_
        refine c_region (n := 52) ⟨rfl, rfl⟩ ?_
        refine s_val (r_move rfl) ?_
        refine s_val (r_move rfl) ?_
        have hk0 := lsK_rng (k := k.1) (x := (bs.length : Int)) (by omega) (by omega) 32
        have hxr := lsB_rng (k := bs) hk0.1 hk0.2 bs.length
        obtain ⟨hy0, hy1⟩ := lsY_rng hxr.1 hxr.2 (i + 1)
        obtain ⟨q, hq⟩ : ∃ q, q = lsY (lsX k bs) (i + 1) / 72057594037927936 := ⟨_, rfl⟩
        have hq0 : 0 ≤ q ∧ q < 256 := by rw [hq]; unfold lsX; omega
        refine s_val (r_shr rfl rfl (by omega) (show _ = q from (Int.fdiv_eq_ediv_of_nonneg _ (by decide)).trans hq.symm)) ?_
        refine s_val (r_conv Try.runUnderlying36 Try.runUnderlying5 rfl ((w_u8' _).trans (show _ = ((lsO k bs i).toNat : Int) from (Int.emod_eq_of_lt hq0.1 hq0.2).trans (lsO_byte hq hq0.1 hq0.2)))) ?_
        refine s_val (r_indexAddrA Try.runUnderlying135 Try.sizeOf5 rfl rfl (by omega) (by omega)) ?_
        refine s_st (m_store1 H 0 Try.sizeOf5 rfl rfl rfl rfl (by rw [bC_length, mix_length _ _ (by rw [(litSum k bs).2, List.length_replicate]), List.length_replicate]; omega) (mix_set _ _ i (by rw [(litSum k bs).2, List.length_replicate]) (by rw [List.length_replicate]; omega) (by omega) (by rw [litSum_get _ _ (by omega)]))) (L' := [_,_]) rfl ?_
        intro w H
        refine c_nil0 (l' := [_,_,_,_,_,_,_,_,_,_,_,_,_,_,_,_,_,_,_,_,_,_,_,_,_,_,_,_,_,_,_,_,_,_,_,_,_,_,_,_,_,_,_,_,_,_,_,_,_,_,_,_]) rfl ?_
        refine x_blockNormal ?_
        refine x_thenNormal ?_
        refine c_region (n := 52) ⟨rfl, rfl⟩ ?_
        refine s_val (r_move rfl) ?_
        refine s_val (r_add rfl rfl (w_i64 (by omega) (by omega))) ?_
        refine s_val (r_assign rfl) ?_
        refine c_nil0 (l' := [_,_,_,_,_,_,_,_,_,_,_,_,_,_,_,_,_,_,_,_,_,_,_,_,_,_,_,_,_,_,_,_,_,_,_,_,_,_,_,_,_,_,_,_,_,_,_,_,_,_,_,_]) rfl ?_
        exact ⟨i + 1, _, rfl, ⟨_,_,_,_,_,_,_,_,_,_,_,_, rfl, by omega, H⟩, by omega⟩
      · skip
        obtain rfl : i = 16 := by omega
        rw [mix_all _ _ (litSum k bs).2 (List.length_replicate ..)] at H
        have hq8 : (bC (litSum k bs).1).length = 16 := kC_length _
        refine wp_exit (x_thenExit (x_thenExit (x_blockHit ?_)))
        refine x_thenNormal ?_
        refine c_rseq (n := 52) ⟨rfl, rfl⟩ ?_
        refine s_val (r_loadn Try.isAgg135 Try.sizeOf135 rfl (H.at 0 rfl) (by first | exact (kC_td _) | exact (hC_td _) | exact (hC_seed _) | exact (shC_td _ _) | exact (all_td 16 hq8)) hq8) ?_
        refine s_st (m_storen H 1 16 Try.sizeOf135 rfl rfl (by first | exact (kC_length _) | exact (hC_length _) | exact (shC_length _ _)) (by first | exact (kC_one _) | exact (hC_one _) | exact (shC_one _ _)) rfl (by first | exact (by rw [kC_length]; omega) | exact (by rw [hC_length]; omega)) (by first | exact (kC_sp _ _) | exact (hC_sp _ _) | exact (kC_sp _ (litSum k bs)))) (L' := [_,_]) rfl ?_
        intro w H
        refine c_nil (l' := [_,_,_,_,_,_,_,_,_,_,_,_,_,_,_,_,_,_,_,_,_,_,_,_,_,_,_,_,_,_,_,_,_,_,_,_,_,_,_,_,_,_,_,_,_,_,_,_,_,_,_,_]) rfl ?_
        refine wp_ret ?_
        refine e_ret (rc_one rfl (rc_celln Try.isAgg135 Try.sizeOf135 rfl (H.at 1 rfl) (by first | exact (kC_td _) | exact (hC_td _) | exact (hC_seed _) | exact (shC_td _ _) | exact (all_td 16 hq8)) (by first | exact (kC_length _) | exact (hC_length _) | exact (shC_length _ _)))) ⟨_, rfl, ?_⟩
        exact ⟨rfl, H.sub (List.nil_sublist _)⟩

end Go.Proofs.Ytbjalofmamoffaa

