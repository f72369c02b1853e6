import Derived.Test.YtobfnieebiakeaaPM
import Derived.Test.YtobfnieebiakeaaPW2
import Derived.Test.YtobfnieebiakeaaPVx1
namespace Go.Proofs.Ytobfnieebiakeaa
open Go Go.Er

theorem _root_.Go.Er.St.owns0 {w0 w : World} {X : List Nat} {b : Nat} {o : Obj} {L : List (Nat × Obj)} (h : St w0 X w ((b, o) :: L)) : Go.Er.Own w [(b, o)] :=
 ⟨fun p hp => h.own p (by rw [List.mem_singleton.1 hp]; exact List.mem_cons_self), by simp⟩
theorem _root_.Go.Er.St.ne0 {w0 w : World} {b b1 : Nat} {o o' : Obj} {L : List (Nat × Obj)} (h : St w0 [] w ((b1, o) :: L)) (hb : w0.heap[b]? = some o') : b ∉ [b1] := by
 intro hm
 rw [List.mem_singleton] at hm
 subst hm
 rcases h.fresh _ List.mem_cons_self with h1 | h1
 ·have := lt_of_heap hb
  simp only at h1
  omega
 ·simp at h1
theorem u64_mod (x : Int) : IntKind.u64.wrap x = ((x % 18446744073709551616).toNat : Int) := by rw [w_u64']; omega
theorem u64_lt (x : Int) : (x % 18446744073709551616).toNat < 18446744073709551616 := by omega
theorem and_mask {n k : Nat} (hn : n < 18446744073709551616) (hk : 2 ^ k - 1 < 18446744073709551616) : ∃ o : Nat, IntKind.u64.wrap (BitVec.ofInt IntKind.u64.bits (n : Int) &&& BitVec.ofInt IntKind.u64.bits ((2 ^ k - 1 : Nat) : Int)).toNat = (o : Int) ∧ o ≤ 2 ^ k - 1 := by
 refine ⟨n &&& (2 ^ k - 1), ?_, Nat.and_le_right⟩
 have hb : ∀ m : Nat, m < 18446744073709551616 → (BitVec.ofInt 64 (m : Int)).toNat = m := fun m hm => by
  rw [BitVec.ofInt_natCast, BitVec.toNat_ofNat]; exact Nat.mod_eq_of_lt (by omega)
 show IntKind.u64.wrap ((BitVec.ofInt 64 (n : Int) &&& BitVec.ofInt 64 ((2 ^ k - 1 : Nat) : Int)).toNat : Int) = _
 rw [BitVec.toNat_and, hb _ hn, hb _ hk]
 have := Nat.and_le_left (n := n) (m := 2 ^ k - 1)
 exact w_u64 (by omega) (by omega)
def LenF (x c : Nat) : Prop := x ≤ 12 + c ∧ c ≤ 5 ∧ (8 ≤ x → x < 2 ^ c ∧ 2 ^ c ≤ 2 * x)
instance (x c : Nat) : Decidable (LenF x c) := by unfold LenF; infer_instance
def len8 : ByteArray := ⟨#[0, 1, 2, 2, 3, 3, 3, 3, 4, 4, 4, 4, 4, 4, 4, 4, 5, 5, 5, 5, 5, 5, 5, 5, 5, 5, 5, 5, 5, 5, 5, 5, 6, 6, 6, 6, 6, 6, 6, 6, 6, 6, 6, 6, 6, 6, 6, 6, 6, 6, 6, 6, 6, 6, 6, 6, 6, 6, 6, 6, 6, 6, 6, 6, 7, 7, 7, 7, 7, 7, 7, 7, 7, 7, 7, 7, 7, 7, 7, 7, 7, 7, 7, 7, 7, 7, 7, 7, 7, 7, 7, 7, 7, 7, 7, 7, 7, 7, 7, 7, 7, 7, 7, 7, 7, 7, 7, 7, 7, 7, 7, 7, 7, 7, 7, 7, 7, 7, 7, 7, 7, 7, 7, 7, 7, 7, 7, 7, 8, 8, 8, 8, 8, 8, 8, 8, 8, 8, 8, 8, 8, 8, 8, 8, 8, 8, 8, 8, 8, 8, 8, 8, 8, 8, 8, 8, 8, 8, 8, 8, 8, 8, 8, 8, 8, 8, 8, 8, 8, 8, 8, 8, 8, 8, 8, 8, 8, 8, 8, 8, 8, 8, 8, 8, 8, 8, 8, 8, 8, 8, 8, 8, 8, 8, 8, 8, 8, 8, 8, 8, 8, 8, 8, 8, 8, 8, 8, 8, 8, 8, 8, 8, 8, 8, 8, 8, 8, 8, 8, 8, 8, 8, 8, 8, 8, 8, 8, 8, 8, 8, 8, 8, 8, 8, 8, 8, 8, 8, 8, 8, 8, 8, 8, 8, 8, 8, 8, 8, 8, 8, 8, 8, 8, 8, 8, 8]⟩
theorem len8_all : (List.range 32).all (fun x => match len8[x]? with | some u => decide (x < 18 → LenF x u.toNat) | none => false) = true := by decide +kernel
theorem len8_get (x : Nat) (hx : x < 18) : ∃ u, len8[(x : Int).toNat]? = some u ∧ LenF x u.toNat := by
 have h := List.all_eq_true.1 len8_all x (List.mem_range.2 (by omega))
 rw [Int.toNat_natCast]
 cases hu : len8[x]? with
 | none => rw [hu] at h; cases h
 | some u => rw [hu] at h; exact ⟨u, rfl, of_decide_eq_true h hx⟩
theorem shl_one {c : Nat} (hc : c ≤ 5) : IntKind.u64.wrap (1 * 2 ^ min ((c : Nat) : Int).toNat IntKind.u64.bits) = ((2 ^ c : Nat) : Int) := by
 have e : min ((c : Nat) : Int).toNat IntKind.u64.bits = c := Nat.min_eq_left (by show c ≤ 64; omega)
 have h1 : (2 : Nat) ^ c ≤ 2 ^ 5 := Nat.pow_le_pow_right (by omega) hc
 have h2 : ((2 : Int) ^ c) = ((2 ^ c : Nat) : Int) := by simp
 rw [e, Int.one_mul, h2]
 have h3 : (2 : Nat) ^ 5 = 32 := rfl
 rw [h3] at h1
 generalize (2 : Nat) ^ c = m at h1 ⊢
 exact w_u64 (by omega) (by omega)
theorem _root_.Go.Er.Srt.snoc {α : Type} {d : α} {key : α → Int} {a i : Nat} {ys : List α} (h : Srt d key a i ys) (hc : ¬ kk d key ys i < kk d key ys (i - 1)) : Srt d key a (i + 1) ys := by
 intro p q h1 h2 h3
 by_cases hq : q = i
 ·subst hq
  by_cases hp : p = q - 1
  ·subst hp; exact Int.not_lt.1 hc
  ·have := h p (q - 1) h1 (by omega) (by omega); omega
 ·exact h p q h1 h2 (by omega)

end Go.Proofs.Ytobfnieebiakeaa

