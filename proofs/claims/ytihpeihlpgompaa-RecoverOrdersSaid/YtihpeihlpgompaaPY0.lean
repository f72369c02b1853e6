import Derived.Test.YtihpeihlpgompaaPX1
import Derived.Test.YtihpeihlpgompaaPVx1
namespace Go.Proofs.Ytihpeihlpgompaa
open Go Go.Er

theorem _root_.Go.Er.St.owns0 {w0 w : World} {X : List Nat} {b : Nat} {o : Obj} {L : List (Nat × Obj)} (h : St w0 X w ((b, o) :: L)) : Go.Er.Own w [(b, o)] :=
 ⟨fun p hp => h.own p (by rw [List.mem_singleton.1 hp]; exact List.mem_cons_self), by simp⟩
theorem _root_.Go.Er.St.ne0 {w0 w : World} {b b1 : Nat} {o o' : Obj} {L : List (Nat × Obj)} (h : St w0 [] w ((b1, o) :: L)) (hb : w0.heap[b]? = some o') : b ∉ [b1] := by
 intro hm
 rw [List.mem_singleton] at hm
 subst hm
 rcases h.fresh _ List.mem_cons_self with h1 | h1
 ·have := lt_of_heap hb
  simp only at h1
  omega
 ·simp at h1
theorem u64_mod (x : Int) : IntKind.u64.wrap x = ((x % 18446744073709551616).toNat : Int) := by rw [w_u64']; omega
theorem u64_lt (x : Int) : (x % 18446744073709551616).toNat < 18446744073709551616 := by omega
theorem and_mask {n k : Nat} (hn : n < 18446744073709551616) (hk : 2 ^ k - 1 < 18446744073709551616) : ∃ o : Nat, IntKind.u64.wrap (BitVec.ofInt IntKind.u64.bits (n : Int) &&& BitVec.ofInt IntKind.u64.bits ((2 ^ k - 1 : Nat) : Int)).toNat = (o : Int) ∧ o ≤ 2 ^ k - 1 := by
 refine ⟨n &&& (2 ^ k - 1), ?_, Nat.and_le_right⟩
 have hb : ∀ m : Nat, m < 18446744073709551616 → (BitVec.ofInt 64 (m : Int)).toNat = m := fun m hm => by
  rw [BitVec.ofInt_natCast, BitVec.toNat_ofNat]; exact Nat.mod_eq_of_lt (by omega)
 show IntKind.u64.wrap ((BitVec.ofInt 64 (n : Int) &&& BitVec.ofInt 64 ((2 ^ k - 1 : Nat) : Int)).toNat : Int) = _
 rw [BitVec.toNat_and, hb _ hn, hb _ hk]
 have := Nat.and_le_left (n := n) (m := 2 ^ k - 1)
 exact w_u64 (by omega) (by omega)
def LenF (x c : Nat) : Prop := c ≤ 8 ∧ (8 ≤ x → x < 2 ^ c ∧ 2 ^ c ≤ 2 * x)
instance (x c : Nat) : Decidable (LenF x c) := by unfold LenF; infer_instance
def len8 : ByteArray := ⟨#[0, 1, 2, 2, 3, 3, 3, 3, 4, 4, 4, 4, 4, 4, 4, 4, 5, 5, 5, 5, 5, 5, 5, 5, 5, 5, 5, 5, 5, 5, 5, 5, 6, 6, 6, 6, 6, 6, 6, 6, 6, 6, 6, 6, 6, 6, 6, 6, 6, 6, 6, 6, 6, 6, 6, 6, 6, 6, 6, 6, 6, 6, 6, 6, 7, 7, 7, 7, 7, 7, 7, 7, 7, 7, 7, 7, 7, 7, 7, 7, 7, 7, 7, 7, 7, 7, 7, 7, 7, 7, 7, 7, 7, 7, 7, 7, 7, 7, 7, 7, 7, 7, 7, 7, 7, 7, 7, 7, 7, 7, 7, 7, 7, 7, 7, 7, 7, 7, 7, 7, 7, 7, 7, 7, 7, 7, 7, 7, 8, 8, 8, 8, 8, 8, 8, 8, 8, 8, 8, 8, 8, 8, 8, 8, 8, 8, 8, 8, 8, 8, 8, 8, 8, 8, 8, 8, 8, 8, 8, 8, 8, 8, 8, 8, 8, 8, 8, 8, 8, 8, 8, 8, 8, 8, 8, 8, 8, 8, 8, 8, 8, 8, 8, 8, 8, 8, 8, 8, 8, 8, 8, 8, 8, 8, 8, 8, 8, 8, 8, 8, 8, 8, 8, 8, 8, 8, 8, 8, 8, 8, 8, 8, 8, 8, 8, 8, 8, 8, 8, 8, 8, 8, 8, 8, 8, 8, 8, 8, 8, 8, 8, 8, 8, 8, 8, 8, 8, 8, 8, 8, 8, 8, 8, 8, 8, 8, 8, 8, 8, 8, 8, 8, 8, 8, 8, 8]⟩
theorem len8_all : (List.range 256).all (fun x => match len8[x]? with | some u => decide (x < 256 → LenF x u.toNat) | none => false) = true := by decide +kernel
theorem len8_get (x : Nat) (hx : x < 256) : ∃ u, len8[(x : Int).toNat]? = some u ∧ LenF x u.toNat := by
 have h := List.all_eq_true.1 len8_all x (List.mem_range.2 (by omega))
 rw [Int.toNat_natCast]
 cases hu : len8[x]? with
 | none => rw [hu] at h; cases h
 | some u => rw [hu] at h; exact ⟨u, rfl, of_decide_eq_true h hx⟩
theorem shl_one {c : Nat} (hc : c ≤ 8) : IntKind.u64.wrap (1 * 2 ^ min ((c : Nat) : Int).toNat IntKind.u64.bits) = ((2 ^ c : Nat) : Int) := by
 have e : min ((c : Nat) : Int).toNat IntKind.u64.bits = c := Nat.min_eq_left (by show c ≤ 64; omega)
 have h1 : (2 : Nat) ^ c ≤ 2 ^ 8 := Nat.pow_le_pow_right (by omega) hc
 have h2 : ((2 : Int) ^ c) = ((2 ^ c : Nat) : Int) := by simp
 rw [e, Int.one_mul, h2]
 have h3 : (2 : Nat) ^ 8 = 256 := rfl
 rw [h3] at h1
 generalize (2 : Nat) ^ c = m at h1 ⊢
 exact w_u64 (by omega) (by omega)
theorem _root_.Go.Er.Srt.snoc {α : Type} {d : α} {key : α → Int} {a i : Nat} {ys : List α} (h : Srt d key a i ys) (hc : ¬ kk d key ys i < kk d key ys (i - 1)) : Srt d key a (i + 1) ys := by
 intro p q h1 h2 h3
 by_cases hq : q = i
 ·subst hq
  by_cases hp : p = q - 1
  ·subst hp; exact Int.not_lt.1 hc
  ·have := h p (q - 1) h1 (by omega) (by omega); omega
 ·exact h p q h1 h2 (by omega)

set_option maxHeartbeats 4000000 in
theorem isNaN_spec (n : Int) (w0 : World) :
  Calls Try.prog 22 #[.int .u64 n] w0 fun e w => ∃ v, e = .returned v ∧ (v = .bool false ∧ St w0 [] w []) := by
 have H := St.refl w0
 refine c_enter (args := [.int .u64 n]) (l := [.int .u64 n, undef, undef, undef, undef, undef]) Try.func22 Try.ntmps22 rfl rfl ?_
 refine c_rseq (n := 6) ⟨rfl, rfl⟩ ?_
 refine s_val (r_assign rfl) ?_
 refine c_nil (l' := [_,_,_,_,_,_]) rfl ?_
 refine c_rseq (n := 6) ⟨rfl, rfl⟩ ?_
 refine s_val (r_move rfl) ?_
 refine s_val (r_move rfl) ?_
 refine s_val (r_neq rfl rfl) ?_
 refine s_val (r_assign rfl) ?_
 refine c_nil (l' := [_,_,_,_,_,_]) rfl ?_
 refine wp_ret ?_
 refine e_ret (res1 rfl rfl) ⟨_, rfl, ?_⟩
 exact ⟨by simp, H⟩

set_option maxHeartbeats 4000000 in
theorem compare_spec (m n : Int) (w0 : World) :
  Calls Try.prog 16 #[.int .u64 m, .int .u64 n] w0 fun e w => ∃ v, e = .returned v ∧ (v = .int .i64 (cmpI m n) ∧ St w0 [] w []) := by
 have H := St.refl w0
 refine c_enter (args := [.int .u64 m, .int .u64 n]) (l := [.int .u64 m, .int .u64 n, undef, undef, undef, undef, undef, undef, undef, undef, undef, undef, undef, undef, undef, undef, undef, undef, undef, undef]) Try.func16 Try.ntmps16 rfl rfl ?_
 refine c_rseq (n := 20) ⟨rfl, rfl⟩ ?_
 refine s_val (r_assign rfl) ?_
 refine c_nil (l' := [_,_,_,_,_,_,_,_,_,_,_,_,_,_,_,_,_,_,_,_]) rfl ?_
 refine c_rseq (n := 20) ⟨rfl, rfl⟩ ?_
 refine s_val (r_move rfl) ?_
 refine s_call (r_call Try.call22 (ec rfl en)) (isNaN_spec _ _) ?_
 rintro v w ⟨rfl, HC⟩
 replace H := H.quiet HC
 refine s_val (r_assign rfl) ?_
 refine c_nil (l' := [_,_,_,_,_,_,_,_,_,_,_,_,_,_,_,_,_,_,_,_]) rfl ?_
 refine c_rseq (n := 20) ⟨rfl, rfl⟩ ?_
 refine s_val (r_move rfl) ?_
 refine s_call (r_call Try.call22 (ec rfl en)) (isNaN_spec _ _) ?_
 rintro v w ⟨rfl, HC⟩
 replace H := H.quiet HC
 refine s_val (r_assign rfl) ?_
 refine c_nil (l' := [_,_,_,_,_,_,_,_,_,_,_,_,_,_,_,_,_,_,_,_]) rfl ?_
 refine c_seq ?_
 refine c_rseq (n := 20) ⟨rfl, rfl⟩ ?_
 refine s_val (r_move rfl) ?_
 refine c_nil (l' := [_,_,_,_,_,_,_,_,_,_,_,_,_,_,_,_,_,_,_,_]) rfl ?_
 refine c_iff rfl ?_
 refine wp_skip ?_
 refine x_thenNormal ?_
 refine c_seq ?_
 refine c_rseq (n := 20) ⟨rfl, rfl⟩ ?_
 refine s_val (r_move rfl) ?_
 refine c_nil (l' := [_,_,_,_,_,_,_,_,_,_,_,_,_,_,_,_,_,_,_,_]) rfl ?_
 refine c_iff rfl ?_
 refine wp_skip ?_
 refine x_thenNormal ?_
 refine c_seq ?_
 refine c_rseq (n := 20) ⟨rfl, rfl⟩ ?_
 refine s_val (r_move rfl) ?_
 refine s_val (r_move rfl) ?_
 refine s_val (r_lss rfl rfl) ?_
 refine c_nil (l' := [_,_,_,_,_,_,_,_,_,_,_,_,_,_,_,_,_,_,_,_]) rfl ?_
 refine c_if rfl (fun h16 => ?_) (fun h16 => ?_)
 ·skip
  refine c_rseq (n := 20) ⟨rfl, rfl⟩ ?_
  refine s_val (r_assign rfl) ?_
  refine c_nil (l' := [_,_,_,_,_,_,_,_,_,_,_,_,_,_,_,_,_,_,_,_]) rfl ?_
  refine wp_ret (x_thenRet ?_)
  refine e_ret (res1 rfl rfl) ⟨_, rfl, ?_⟩
  exact ⟨by unfold cmpI; first | rw [if_pos (by omega)] | rw [if_neg (by omega), if_pos (by omega)] | rw [if_neg (by omega), if_neg (by omega)], H⟩
 ·skip
  refine wp_skip ?_
  refine x_thenNormal ?_
  refine c_seq ?_
  refine c_rseq (n := 20) ⟨rfl, rfl⟩ ?_
  refine s_val (r_move rfl) ?_
  refine s_val (r_move rfl) ?_
  refine s_val (r_gtr rfl rfl) ?_
  refine c_nil (l' := [_,_,_,_,_,_,_,_,_,_,_,_,_,_,_,_,_,_,_,_]) rfl ?_
  refine c_if rfl (fun h19 => ?_) (fun h19 => ?_)
  ·skip
   refine c_rseq (n := 20) ⟨rfl, rfl⟩ ?_
   refine s_val (r_assign rfl) ?_
   refine c_nil (l' := [_,_,_,_,_,_,_,_,_,_,_,_,_,_,_,_,_,_,_,_]) rfl ?_
   refine wp_ret (x_thenRet ?_)
   refine e_ret (res1 rfl rfl) ⟨_, rfl, ?_⟩
   exact ⟨by unfold cmpI; first | rw [if_pos (by omega)] | rw [if_neg (by omega), if_pos (by omega)] | rw [if_neg (by omega), if_neg (by omega)], H⟩
  ·skip
   refine wp_skip ?_
   refine x_thenNormal ?_
   refine c_rseq (n := 20) ⟨rfl, rfl⟩ ?_
   refine s_val (r_assign rfl) ?_
   refine c_nil (l' := [_,_,_,_,_,_,_,_,_,_,_,_,_,_,_,_,_,_,_,_]) rfl ?_
   refine wp_ret ?_
   refine e_ret (res1 rfl rfl) ⟨_, rfl, ?_⟩
   exact ⟨by unfold cmpI; first | rw [if_pos (by omega)] | rw [if_neg (by omega), if_pos (by omega)] | rw [if_neg (by omega), if_neg (by omega)], H⟩

set_option maxHeartbeats 4000000 in
theorem rcmp_spec (x y : FrL) (w0 : World) :
  Calls Try.prog 15 #[.agg (frC x).toArray, .agg (frC y).toArray] w0 fun e w => ∃ v, e = .returned v ∧ (v = .int .i64 (cmpI (frK x) (frK y)) ∧ St w0 [] w []) := by
 have H := St.refl w0
 refine c_enter (args := [.agg (frC x).toArray, .agg (frC y).toArray]) (l := [.agg (frC x).toArray, .agg (frC y).toArray, undef, undef, undef, undef, undef, undef, undef, undef, undef, undef]) Try.func15 Try.ntmps15 rfl rfl ?_
 refine c_rseq (n := 12) ⟨rfl, rfl⟩ ?_
 refine s_new (m_box (cs := (frC x)) H rfl rfl) ?_
 intro w b2 H
 refine s_new (m_box (cs := (frC y)) H rfl rfl) ?_
 intro w b3 H
 refine s_val (r_assign rfl) ?_
 refine c_nil (l' := [_,_,_,_,_,_,_,_,_,_,_,_]) rfl ?_
 refine c_rseq (n := 12) ⟨rfl, rfl⟩ ?_
 refine s_val (r_fieldAddr (k := 1) Try.runUnderlying42 rfl Try.sizeOf40 (by decide) rfl rfl) ?_
 refine s_val (r_fieldAddr (k := 1) Try.runUnderlying40 rfl Try.sizeOf24 (by decide) rfl rfl) ?_
 refine s_val (r_load1 Try.isAgg24 rfl (H.at 1 rfl) rfl) ?_
 refine s_val (r_fieldAddr (k := 1) Try.runUnderlying42 rfl Try.sizeOf40 (by decide) rfl rfl) ?_
 refine s_val (r_fieldAddr (k := 1) Try.runUnderlying40 rfl Try.sizeOf24 (by decide) rfl rfl) ?_
 refine s_val (r_load1 Try.isAgg24 rfl (H.at 0 rfl) rfl) ?_
 refine s_call (r_call Try.call16 (ec rfl (ec rfl en))) (compare_spec _ _ _) ?_
 rintro v w ⟨rfl, HC⟩
 replace H := H.quiet HC
 refine s_val (r_assign rfl) ?_
 refine c_nil (l' := [_,_,_,_,_,_,_,_,_,_,_,_]) rfl ?_
 refine wp_ret ?_
 refine e_ret (res1 rfl rfl) ⟨_, rfl, ?_⟩
 exact ⟨rfl, H.sub (List.nil_sublist _)⟩

set_option maxHeartbeats 4000000 in
theorem xsn_spec (r n : Nat) (w0 : World) (hown : Go.Er.Own w0 [(r, .cells [.int .u64 (n : Nat)].toArray 101 (0, 0))]) :
  Calls Try.prog 50 #[.pointer (some ⟨r, 0, none⟩)] w0 fun e w => ∃ v, e = .returned v ∧ (∃ m : Nat, m < 18446744073709551616 ∧ v = .int .u64 m ∧ St w0 [r] w [(r, .cells [.int .u64 (m : Nat)].toArray 101 (0, 0))]) := by
 have H : St w0 [r] w0 [(r, .cells [.int .u64 (n : Nat)].toArray 101 (0, 0))] := hown.st
 refine c_enter (args := [.pointer (some ⟨r, 0, none⟩)]) (l := [.pointer (some ⟨r, 0, none⟩), undef, undef, undef, undef, undef, undef, undef, undef, undef, undef, undef, undef, undef, undef, undef, undef, undef, undef, undef, undef, undef, undef, undef, undef, undef, undef, undef, undef, undef, undef, undef, undef]) Try.func50 Try.ntmps50 rfl rfl ?_
 refine c_rseq (n := 33) ⟨rfl, rfl⟩ ?_
 refine s_val (r_assign rfl) ?_
 refine c_nil (l' := [_,_,_,_,_,_,_,_,_,_,_,_,_,_,_,_,_,_,_,_,_,_,_,_,_,_,_,_,_,_,_,_,_]) rfl ?_
 refine c_cut (fun (l0 : List Value) (l : List Value) (w : World) => ∃ (u3 u4 u5 u6 u7 u8 u9 u10 u11 : Value) (n1 : Nat), l = ovr l0 [N_, N_, N_, Y_ u3, Y_ u4, Y_ u5, Y_ u6, Y_ u7, Y_ u8, Y_ u9, Y_ u10, Y_ u11] ∧ n1 < 18446744073709551616 ∧ St w0 [r] w [(r, .cells [.int .u64 (n1 : Nat)].toArray 101 (0, 0))]) ?_ ?_
 ·skip
  refine d_begin (sz := 33) ⟨rfl, rfl⟩ (by kernel_rfl) H (H.sub (.cons _ .slnil)) rfl ?_
  intro w H
  refine d_take (i := 0) rfl (by kernel_rfl) (fun _ _ _ h => h) (H.sub (.cons _ .slnil)) (fun _ _ => r_move rfl) rfl ?_
  refine d_take (i := 1) rfl (by kernel_rfl) (fun _ _ _ h => h) (H.sub (.cons _ .slnil)) (fun _ _ => r_nilCheck rfl) rfl ?_
  refine d_take (i := 3) rfl (by kernel_rfl) (fun _ _ _ h => h) (H.sub (.cons _ .slnil)) (fun _ _ => r_move rfl) rfl ?_
  refine d_take (i := 4) rfl (by kernel_rfl) (fun _ _ _ h => h) (H.sub (.cons _ .slnil)) (fun _ _ => r_nilCheck rfl) rfl ?_
  refine d_all2 (i := 2) (j := 5) (by kernel_rfl) ?_ ?_
  ·skip
   refine b_val rfl go_none (r_load1 Try.isAgg101 rfl (H.at 0 rfl) rfl) rfl (H.sub (.cons _ .slnil)) ?_
   refine d_all1 (i := 5) (by kernel_rfl) ?_
   refine b_val rfl go_none (r_load1 Try.isAgg101 rfl (H.at 0 rfl) rfl) rfl (H.sub (.cons _ .slnil)) ?_
   refine d_take (i := 6) rfl (by kernel_rfl) (fun _ _ _ h => h) (H.sub (.cons _ .slnil)) (fun _ _ => r_shl rfl rfl (by omega) rfl) rfl ?_
   refine d_take (i := 7) rfl (by kernel_rfl) (fun _ _ _ h => h) (H.sub (.cons _ .slnil)) (fun _ _ => r_xor rfl rfl (u64_mod _)) rfl ?_
   refine d_take (i := 8) rfl (by kernel_rfl) (fun _ _ _ h => h) (H.sub (.cons _ .slnil)) (fun _ _ => r_nilCheck rfl) rfl ?_
   refine d_all1 (i := 9) (by kernel_rfl) ?_
   refine b_st rfl go_none (m_store1 H 0 Try.sizeOf101 rfl rfl rfl rfl (by first | exact (by rw [kC_length]; omega) | exact (by rw [hC_length]; omega) | exact (by simp)) rfl) (L' := [_]) rfl rfl (fun _ H => (H.sub (.cons _ .slnil))) ?_
   intro w H
   refine d_done (l' := [_,_,_,_,_,_,_,_,_,_,_,_,_,_,_,_,_,_,_,_,_,_,_,_,_,_,_,_,_,_,_,_,_]) (by kernel_rfl) rfl ?_
   exact ⟨_, rfl, ⟨_,_,_,_,_,_,_,_,_,_, rfl, (u64_lt _), H⟩⟩
  ·skip
   refine b_val rfl go_none (r_load1 Try.isAgg101 rfl (H.at 0 rfl) rfl) rfl (H.sub (.cons _ .slnil)) ?_
   refine d_take (i := 6) rfl (by kernel_rfl) (fun _ _ _ h => h) (H.sub (.cons _ .slnil)) (fun _ _ => r_shl rfl rfl (by omega) rfl) rfl ?_
   refine d_all1 (i := 2) (by kernel_rfl) ?_
   refine b_val rfl go_none (r_load1 Try.isAgg101 rfl (H.at 0 rfl) rfl) rfl (H.sub (.cons _ .slnil)) ?_
   refine d_take (i := 7) rfl (by kernel_rfl) (fun _ _ _ h => h) (H.sub (.cons _ .slnil)) (fun _ _ => r_xor rfl rfl (u64_mod _)) rfl ?_
   refine d_take (i := 8) rfl (by kernel_rfl) (fun _ _ _ h => h) (H.sub (.cons _ .slnil)) (fun _ _ => r_nilCheck rfl) rfl ?_
   refine d_all1 (i := 9) (by kernel_rfl) ?_
   refine b_st rfl go_none (m_store1 H 0 Try.sizeOf101 rfl rfl rfl rfl (by first | exact (by rw [kC_length]; omega) | exact (by rw [hC_length]; omega) | exact (by simp)) rfl) (L' := [_]) rfl rfl (fun _ H => (H.sub (.cons _ .slnil))) ?_
   intro w H
   refine d_done (l' := [_,_,_,_,_,_,_,_,_,_,_,_,_,_,_,_,_,_,_,_,_,_,_,_,_,_,_,_,_,_,_,_,_]) (by kernel_rfl) rfl ?_
   exact ⟨_, rfl, ⟨_,_,_,_,_,_,_,_,_,_, rfl, (u64_lt _), H⟩⟩
 ·skip
  rintro l w ⟨u3, u4, u5, u6, u7, u8, u9, u10, u11, n1, hl, hn1, H⟩
  obtain rfl := hl.trans (rfl : _ = [_,_,_,_,_,_,_,_,_,_,_,_,_,_,_,_,_,_,_,_,_,_,_,_,_,_,_,_,_,_,_,_,_])
  clear hl
  refine c_cut (fun (l0 : List Value) (l : List Value) (w : World) => ∃ (u12 u13 u14 u15 u16 u17 u18 u19 u20 : Value) (n2 : Nat), l = ovr l0 [N_, N_, N_, N_, N_, N_, N_, N_, N_, N_, N_, N_, Y_ u12, Y_ u13, Y_ u14, Y_ u15, Y_ u16, Y_ u17, Y_ u18, Y_ u19, Y_ u20] ∧ n2 < 18446744073709551616 ∧ St w0 [r] w [(r, .cells [.int .u64 (n2 : Nat)].toArray 101 (0, 0))]) ?_ ?_
  ·skip
   refine d_begin (sz := 33) ⟨rfl, rfl⟩ (by kernel_rfl) H (H.sub (.cons _ .slnil)) rfl ?_
   intro w H
   refine d_take (i := 0) rfl (by kernel_rfl) (fun _ _ _ h => h) (H.sub (.cons _ .slnil)) (fun _ _ => r_move rfl) rfl ?_
   refine d_take (i := 1) rfl (by kernel_rfl) (fun _ _ _ h => h) (H.sub (.cons _ .slnil)) (fun _ _ => r_nilCheck rfl) rfl ?_
   refine d_take (i := 3) rfl (by kernel_rfl) (fun _ _ _ h => h) (H.sub (.cons _ .slnil)) (fun _ _ => r_move rfl) rfl ?_
   refine d_take (i := 4) rfl (by kernel_rfl) (fun _ _ _ h => h) (H.sub (.cons _ .slnil)) (fun _ _ => r_nilCheck rfl) rfl ?_
   refine d_all2 (i := 2) (j := 5) (by kernel_rfl) ?_ ?_
   ·skip
    refine b_val rfl go_none (r_load1 Try.isAgg101 rfl (H.at 0 rfl) rfl) rfl (H.sub (.cons _ .slnil)) ?_
    refine d_all1 (i := 5) (by kernel_rfl) ?_
    refine b_val rfl go_none (r_load1 Try.isAgg101 rfl (H.at 0 rfl) rfl) rfl (H.sub (.cons _ .slnil)) ?_
    refine d_take (i := 6) rfl (by kernel_rfl) (fun _ _ _ h => h) (H.sub (.cons _ .slnil)) (fun _ _ => r_shr rfl rfl (by omega) rfl) rfl ?_
    refine d_take (i := 7) rfl (by kernel_rfl) (fun _ _ _ h => h) (H.sub (.cons _ .slnil)) (fun _ _ => r_xor rfl rfl (u64_mod _)) rfl ?_
    refine d_take (i := 8) rfl (by kernel_rfl) (fun _ _ _ h => h) (H.sub (.cons _ .slnil)) (fun _ _ => r_nilCheck rfl) rfl ?_
    refine d_all1 (i := 9) (by kernel_rfl) ?_
    refine b_st rfl go_none (m_store1 H 0 Try.sizeOf101 rfl rfl rfl rfl (by first | exact (by rw [kC_length]; omega) | exact (by rw [hC_length]; omega) | exact (by simp)) rfl) (L' := [_]) rfl rfl (fun _ H => (H.sub (.cons _ .slnil))) ?_
    intro w H
    refine d_done (l' := [_,_,_,_,_,_,_,_,_,_,_,_,_,_,_,_,_,_,_,_,_,_,_,_,_,_,_,_,_,_,_,_,_]) (by kernel_rfl) rfl ?_
    exact ⟨_, rfl, ⟨_,_,_,_,_,_,_,_,_,_, rfl, (u64_lt _), H⟩⟩
   ·skip
    refine b_val rfl go_none (r_load1 Try.isAgg101 rfl (H.at 0 rfl) rfl) rfl (H.sub (.cons _ .slnil)) ?_
    refine d_take (i := 6) rfl (by kernel_rfl) (fun _ _ _ h => h) (H.sub (.cons _ .slnil)) (fun _ _ => r_shr rfl rfl (by omega) rfl) rfl ?_
    refine d_all1 (i := 2) (by kernel_rfl) ?_
    refine b_val rfl go_none (r_load1 Try.isAgg101 rfl (H.at 0 rfl) rfl) rfl (H.sub (.cons _ .slnil)) ?_
    refine d_take (i := 7) rfl (by kernel_rfl) (fun _ _ _ h => h) (H.sub (.cons _ .slnil)) (fun _ _ => r_xor rfl rfl (u64_mod _)) rfl ?_
    refine d_take (i := 8) rfl (by kernel_rfl) (fun _ _ _ h => h) (H.sub (.cons _ .slnil)) (fun _ _ => r_nilCheck rfl) rfl ?_
    refine d_all1 (i := 9) (by kernel_rfl) ?_
    refine b_st rfl go_none (m_store1 H 0 Try.sizeOf101 rfl rfl rfl rfl (by first | exact (by rw [kC_length]; omega) | exact (by rw [hC_length]; omega) | exact (by simp)) rfl) (L' := [_]) rfl rfl (fun _ H => (H.sub (.cons _ .slnil))) ?_
    intro w H
    refine d_done (l' := [_,_,_,_,_,_,_,_,_,_,_,_,_,_,_,_,_,_,_,_,_,_,_,_,_,_,_,_,_,_,_,_,_]) (by kernel_rfl) rfl ?_
    exact ⟨_, rfl, ⟨_,_,_,_,_,_,_,_,_,_, rfl, (u64_lt _), H⟩⟩
  ·skip
   rintro l w ⟨u12, u13, u14, u15, u16, u17, u18, u19, u20, n2, hl, hn2, H⟩
   obtain rfl := hl.trans (rfl : _ = [_,_,_,_,_,_,_,_,_,_,_,_,_,_,_,_,_,_,_,_,_,_,_,_,_,_,_,_,_,_,_,_,_])
   clear hl
   refine c_cut (fun (l0 : List Value) (l : List Value) (w : World) => ∃ (u21 u22 u23 u24 u25 u26 u27 u28 u29 : Value) (n3 : Nat), l = ovr l0 [N_, N_, N_, N_, N_, N_, N_, N_, N_, N_, N_, N_, N_, N_, N_, N_, N_, N_, N_, N_, N_, Y_ u21, Y_ u22, Y_ u23, Y_ u24, Y_ u25, Y_ u26, Y_ u27, Y_ u28, Y_ u29] ∧ n3 < 18446744073709551616 ∧ St w0 [r] w [(r, .cells [.int .u64 (n3 : Nat)].toArray 101 (0, 0))]) ?_ ?_
   ·skip
    refine d_begin (sz := 33) ⟨rfl, rfl⟩ (by kernel_rfl) H (H.sub (.cons _ .slnil)) rfl ?_
    intro w H
    refine d_take (i := 0) rfl (by kernel_rfl) (fun _ _ _ h => h) (H.sub (.cons _ .slnil)) (fun _ _ => r_move rfl) rfl ?_
    refine d_take (i := 1) rfl (by kernel_rfl) (fun _ _ _ h => h) (H.sub (.cons _ .slnil)) (fun _ _ => r_nilCheck rfl) rfl ?_
    refine d_take (i := 3) rfl (by kernel_rfl) (fun _ _ _ h => h) (H.sub (.cons _ .slnil)) (fun _ _ => r_move rfl) rfl ?_
    refine d_take (i := 4) rfl (by kernel_rfl) (fun _ _ _ h => h) (H.sub (.cons _ .slnil)) (fun _ _ => r_nilCheck rfl) rfl ?_
    refine d_all2 (i := 2) (j := 5) (by kernel_rfl) ?_ ?_
    ·skip
     refine b_val rfl go_none (r_load1 Try.isAgg101 rfl (H.at 0 rfl) rfl) rfl (H.sub (.cons _ .slnil)) ?_
     refine d_all1 (i := 5) (by kernel_rfl) ?_
     refine b_val rfl go_none (r_load1 Try.isAgg101 rfl (H.at 0 rfl) rfl) rfl (H.sub (.cons _ .slnil)) ?_
     refine d_take (i := 6) rfl (by kernel_rfl) (fun _ _ _ h => h) (H.sub (.cons _ .slnil)) (fun _ _ => r_shl rfl rfl (by omega) rfl) rfl ?_
     refine d_take (i := 7) rfl (by kernel_rfl) (fun _ _ _ h => h) (H.sub (.cons _ .slnil)) (fun _ _ => r_xor rfl rfl (u64_mod _)) rfl ?_
     refine d_take (i := 8) rfl (by kernel_rfl) (fun _ _ _ h => h) (H.sub (.cons _ .slnil)) (fun _ _ => r_nilCheck rfl) rfl ?_
     refine d_all1 (i := 9) (by kernel_rfl) ?_
     refine b_st rfl go_none (m_store1 H 0 Try.sizeOf101 rfl rfl rfl rfl (by first | exact (by rw [kC_length]; omega) | exact (by rw [hC_length]; omega) | exact (by simp)) rfl) (L' := [_]) rfl rfl (fun _ H => (H.sub (.cons _ .slnil))) ?_
     intro w H
     refine d_done (l' := [_,_,_,_,_,_,_,_,_,_,_,_,_,_,_,_,_,_,_,_,_,_,_,_,_,_,_,_,_,_,_,_,_]) (by kernel_rfl) rfl ?_
     exact ⟨_, rfl, ⟨_,_,_,_,_,_,_,_,_,_, rfl, (u64_lt _), H⟩⟩
    ·skip
     refine b_val rfl go_none (r_load1 Try.isAgg101 rfl (H.at 0 rfl) rfl) rfl (H.sub (.cons _ .slnil)) ?_
     refine d_take (i := 6) rfl (by kernel_rfl) (fun _ _ _ h => h) (H.sub (.cons _ .slnil)) (fun _ _ => r_shl rfl rfl (by omega) rfl) rfl ?_
     refine d_all1 (i := 2) (by kernel_rfl) ?_
     refine b_val rfl go_none (r_load1 Try.isAgg101 rfl (H.at 0 rfl) rfl) rfl (H.sub (.cons _ .slnil)) ?_
     refine d_take (i := 7) rfl (by kernel_rfl) (fun _ _ _ h => h) (H.sub (.cons _ .slnil)) (fun _ _ => r_xor rfl rfl (u64_mod _)) rfl ?_
     refine d_take (i := 8) rfl (by kernel_rfl) (fun _ _ _ h => h) (H.sub (.cons _ .slnil)) (fun _ _ => r_nilCheck rfl) rfl ?_
     refine d_all1 (i := 9) (by kernel_rfl) ?_
     refine b_st rfl go_none (m_store1 H 0 Try.sizeOf101 rfl rfl rfl rfl (by first | exact (by rw [kC_length]; omega) | exact (by rw [hC_length]; omega) | exact (by simp)) rfl) (L' := [_]) rfl rfl (fun _ H => (H.sub (.cons _ .slnil))) ?_
     intro w H
     refine d_done (l' := [_,_,_,_,_,_,_,_,_,_,_,_,_,_,_,_,_,_,_,_,_,_,_,_,_,_,_,_,_,_,_,_,_]) (by kernel_rfl) rfl ?_
     exact ⟨_, rfl, ⟨_,_,_,_,_,_,_,_,_,_, rfl, (u64_lt _), H⟩⟩
   ·skip
    rintro l w ⟨u21, u22, u23, u24, u25, u26, u27, u28, u29, n3, hl, hn3, H⟩
    obtain rfl := hl.trans (rfl : _ = [_,_,_,_,_,_,_,_,_,_,_,_,_,_,_,_,_,_,_,_,_,_,_,_,_,_,_,_,_,_,_,_,_])
    clear hl
    refine c_rseq (n := 33) ⟨rfl, rfl⟩ ?_
    refine s_val (r_move rfl) ?_
    refine s_val (r_nilCheck rfl) ?_
    refine s_val (r_load1 Try.isAgg101 rfl (H.at 0 rfl) rfl) ?_
    refine s_val (r_assign rfl) ?_
    refine c_nil (l' := [_,_,_,_,_,_,_,_,_,_,_,_,_,_,_,_,_,_,_,_,_,_,_,_,_,_,_,_,_,_,_,_,_]) rfl ?_
    refine wp_ret ?_
    refine e_ret (res1 rfl rfl) ⟨_, rfl, ?_⟩
    exact ⟨_, hn3, rfl, H⟩

set_option maxHeartbeats 4000000 in
theorem len64_spec (x : Nat) (hx : x < 256) (w0 : World) :
  Calls Try.prog 40 #[.int .u64 (x : Nat)] w0 fun e w => ∃ v, e = .returned v ∧ (∃ c : Nat, LenF x c ∧ v = .int .i64 c ∧ St w0 [] w []) := by
 have H := St.refl w0
 refine c_enter (args := [.int .u64 (x : Nat)]) (l := [.int .u64 (x : Nat), undef, undef, undef, undef, undef, undef, undef, undef, undef, undef, undef, undef, undef, undef, undef, undef, undef, undef, undef, undef, undef, undef, undef, undef]) Try.func40 Try.ntmps40 rfl rfl ?_
 refine c_rseq (n := 25) ⟨rfl, rfl⟩ ?_
 refine s_val (r_assign rfl) ?_
 refine c_nil (l' := [_,_,_,_,_,_,_,_,_,_,_,_,_,_,_,_,_,_,_,_,_,_,_,_,_]) rfl ?_
 refine c_seq ?_
 refine c_rseq (n := 25) ⟨rfl, rfl⟩ ?_
 refine s_val (r_move rfl) ?_
 refine s_val (r_geq rfl rfl) ?_
 refine c_nil (l' := [_,_,_,_,_,_,_,_,_,_,_,_,_,_,_,_,_,_,_,_,_,_,_,_,_]) rfl ?_
 refine c_if rfl (fun h4 => ?_) (fun h4 => ?_)
 ·skip
  exfalso; omega
 ·skip
  refine wp_skip ?_
  refine x_thenNormal ?_
  refine c_seq ?_
  refine c_rseq (n := 25) ⟨rfl, rfl⟩ ?_
  refine s_val (r_move rfl) ?_
  refine s_val (r_geq rfl rfl) ?_
  refine c_nil (l' := [_,_,_,_,_,_,_,_,_,_,_,_,_,_,_,_,_,_,_,_,_,_,_,_,_]) rfl ?_
  refine c_if rfl (fun h8 => ?_) (fun h8 => ?_)
  ·skip
   exfalso; omega
  ·skip
   refine wp_skip ?_
   refine x_thenNormal ?_
   refine c_seq ?_
   refine c_rseq (n := 25) ⟨rfl, rfl⟩ ?_
   refine s_val (r_move rfl) ?_
   refine s_val (r_geq rfl rfl) ?_
   refine c_nil (l' := [_,_,_,_,_,_,_,_,_,_,_,_,_,_,_,_,_,_,_,_,_,_,_,_,_]) rfl ?_
   refine c_if rfl (fun h14 => ?_) (fun h14 => ?_)
   ·skip
    exfalso; omega
   ·skip
    refine wp_skip ?_
    refine x_thenNormal ?_
    refine c_rseq (n := 25) ⟨rfl, rfl⟩ ?_
    refine s_val (r_move rfl) ?_
    refine s_val (r_move rfl) ?_
    refine s_val (r_conv Try.runUnderlying24 Try.runUnderlying5 rfl (w_u8 (by omega) (by omega))) ?_
    obtain ⟨u, hu8, hf⟩ := len8_get x hx
    have hu := u.toNat_lt
    refine s_val (r_indexStr Try.runUnderlying9 rfl rfl (by omega) hu8) ?_
    refine s_val (r_conv Try.runUnderlying5 Try.runUnderlying3 rfl (w_i64 (by omega) (by omega))) ?_
    refine s_val (r_add rfl rfl (w_i64e (r := (u.toNat : Int)) (by omega) (by omega) (by omega))) ?_
    refine s_val (r_assign rfl) ?_
    refine c_nil (l' := [_,_,_,_,_,_,_,_,_,_,_,_,_,_,_,_,_,_,_,_,_,_,_,_,_]) rfl ?_
    refine wp_ret ?_
    refine e_ret (res1 rfl rfl) ⟨_, rfl, ?_⟩
    exact ⟨_, hf, rfl, H⟩

set_option maxHeartbeats 4000000 in
theorem len_spec (x : Nat) (hx : x < 256) (w0 : World) :
  Calls Try.prog 21 #[.int .u64 (x : Nat)] w0 fun e w => ∃ v, e = .returned v ∧ (∃ c : Nat, LenF x c ∧ v = .int .i64 c ∧ St w0 [] w []) := by
 have H := St.refl w0
 refine c_enter (args := [.int .u64 (x : Nat)]) (l := [.int .u64 (x : Nat), undef, undef, undef, undef, undef, undef, undef]) Try.func21 Try.ntmps21 rfl rfl ?_
 refine c_rseq (n := 8) ⟨rfl, rfl⟩ ?_
 refine s_val (r_assign rfl) ?_
 refine c_nil (l' := [_,_,_,_,_,_,_,_]) rfl ?_
 refine c_seq ?_
 refine c_iff rfl ?_
 refine wp_skip ?_
 refine x_thenNormal ?_
 refine c_rseq (n := 8) ⟨rfl, rfl⟩ ?_
 refine s_val (r_move rfl) ?_
 refine s_call (r_call Try.call40 (ec rfl en)) (len64_spec _ (by omega) _) ?_
 rintro v w ⟨c, hlen, rfl, HC⟩
 replace H := H.quiet HC
 refine s_val (r_assign rfl) ?_
 refine c_nil (l' := [_,_,_,_,_,_,_,_]) rfl ?_
 refine wp_ret ?_
 refine e_ret (res1 rfl rfl) ⟨_, rfl, ?_⟩
 exact ⟨_, hlen, rfl, H⟩

set_option maxHeartbeats 4000000 in
theorem npow_spec (x : Nat) (h8 : 8 ≤ x) (hx : x < 256) (w0 : World) :
  Calls Try.prog 49 #[.int .i64 (x : Nat)] w0 fun e w => ∃ v, e = .returned v ∧ (∃ c : Nat, x < 2 ^ c ∧ 2 ^ c ≤ 2 * x ∧ v = .int .u64 (2 ^ c : Nat) ∧ St w0 [] w []) := by
 have H := St.refl w0
 refine c_enter (args := [.int .i64 (x : Nat)]) (l := [.int .i64 (x : Nat), undef, undef, undef, undef, undef, undef]) Try.func49 Try.ntmps49 rfl rfl ?_
 refine c_rseq (n := 7) ⟨rfl, rfl⟩ ?_
 refine s_val (r_assign rfl) ?_
 refine c_nil (l' := [_,_,_,_,_,_,_]) rfl ?_
 refine c_rseq (n := 7) ⟨rfl, rfl⟩ ?_
 refine s_val (r_move rfl) ?_
 refine s_val (r_conv Try.runUnderlying3 Try.runUnderlying67 rfl (w_u64 (by omega) (by omega))) ?_
 refine s_call (r_call Try.call21 (ec rfl en)) (len_spec _ (by omega) _) ?_
 rintro v w ⟨c, hlen, rfl, HC⟩
 replace H := H.quiet HC
 obtain ⟨hl2, hl3⟩ := hlen
 obtain ⟨hl4, hl5⟩ := hl3 h8
 refine s_val (r_shl rfl rfl (by omega) (shl_one hl2)) ?_
 refine s_val (r_assign rfl) ?_
 refine c_nil (l' := [_,_,_,_,_,_,_]) rfl ?_
 refine wp_ret ?_
 refine e_ret (res1 rfl rfl) ⟨_, rfl, ?_⟩
 exact ⟨_, hl4, hl5, rfl, H⟩

end Go.Proofs.Ytihpeihlpgompaa

