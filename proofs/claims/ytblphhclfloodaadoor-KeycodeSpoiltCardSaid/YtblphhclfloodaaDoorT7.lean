/-
  A node whose seed has another byte: in a row of nodes, in their bytes, in memory.
-/
import Derived.Test.YtblphhclfloodaaDoorT2
import Derived.Test.YtblphhclfloodaaDoorF7
namespace Go.Er
open Go

theorem set_mid {α : Type} {A B R : List α} {n j : Nat} {z : α} (hn : n = A.length + j) (hj : j < B.length) : (A ++ (B ++ R)).set n z = A ++ (B.set j z ++ R) := by
  subst hn
  rw [List.set_append_right _ _ (by omega)]
  have e : A.length + j - A.length = j := by omega
  rw [e, List.set_append_left _ _ hj]
theorem split_set {α : Type} {xs : List α} {k : Nat} {y : α} (hk : k < xs.length) : xs.set k y = xs.take k ++ (y :: xs.drop (k + 1)) := by
  apply List.ext_getElem?
  intro i
  have hl : (xs.take k).length = k := by rw [List.length_take]; omega
  rw [List.getElem?_set]
  by_cases h1 : i < k
  · rw [if_neg (by omega), List.getElem?_append_left (by omega), List.getElem?_take, if_pos h1]
  · rw [List.getElem?_append_right (by omega), hl]
    by_cases h2 : k = i
    · subst h2; rw [if_pos rfl, if_pos hk, Nat.sub_self]; rfl
    · rw [if_neg h2]
      obtain ⟨d, rfl⟩ : ∃ d, i = k + 1 + d := ⟨i - (k + 1), by omega⟩
      have e : k + 1 + d - k = d + 1 := by omega
      rw [e, List.getElem?_cons_succ, List.getElem?_drop]
def putS (h : Held) (t : Nat) (z : UInt8) : Held := ⟨h.depth, h.at_, ⟨h.seed.1.set t z, by rw [List.length_set]; exact h.seed.2⟩⟩
def spoil (xs : List Held) (k t : Nat) (z : UInt8) : List Held := xs.set k (putS (nd xs k) t z)
theorem spoil_length (xs : List Held) (k t : Nat) (z : UInt8) : (spoil xs k t z).length = xs.length := List.length_set ..
theorem okFrom_set {y : Held} : ∀ {xs : List Held} {e : Int} {k : Nat}, okFrom e xs → y.depth = (nd xs k).depth → y.at_ = (nd xs k).at_ → okFrom e (xs.set k y)
  | [], _, _, h, _, _ => h
  | x :: t, e, 0, h, hd, ha => by
    obtain ⟨⟨a, b, c, d, f⟩, h2, h3⟩ := h
    have hd' : y.depth = x.depth := hd
    have ha' : y.at_ = x.at_ := ha
    refine ⟨⟨?_, ?_, ?_, ?_, ?_⟩, ?_, ?_⟩ <;> first | (rw [hd', ha']; assumption) | (rw [hd']; assumption) | (rw [ha']; assumption)
  | x :: t, e, k + 1, h, hd, ha => ⟨h.1, h.2.1, okFrom_set h.2.2 hd ha⟩
theorem spoil_valid {xs : List Held} {k t : Nat} {z : UInt8} (h : Valid xs) : Valid (spoil xs k t z) := okFrom_set h rfl rfl
theorem nodeB_put (h : Held) {t : Nat} (z : UInt8) : nodeB (putS h t z) = (nodeB h).set (4 + t) z := by
  unfold nodeB
  have e : 4 + t = (3 + t) + 1 := by omega
  rw [e, List.set_cons_succ, List.set_append_right _ _ (by rw [putB_length]; omega), putB_length]
  have e2 : 3 + t - 3 = t := by omega
  rw [e2]; rfl
theorem enc_spoil {xs : List Held} {k t o : Nat} (z : UInt8) (hk : k < xs.length) (ht : t < 32) (ho : o = 2 + 36 * k + (4 + t)) : (encB xs).set o z = encB (spoil xs k t z) := by
  subst ho
  have e : xs = xs.take k ++ (nd xs k :: xs.drop (k + 1)) := by rw [← nd_eq hk]; simp
  have hl : ((xs.take k).flatMap nodeB).length = 36 * k := by rw [nodes_length]; simp; omega
  have h2 : encB xs = (putB xs.length 2 ++ (xs.take k).flatMap nodeB) ++ (nodeB (nd xs k) ++ (xs.drop (k + 1)).flatMap nodeB) := by
    have h3 : xs.flatMap nodeB = (xs.take k).flatMap nodeB ++ (nodeB (nd xs k) ++ (xs.drop (k + 1)).flatMap nodeB) := by
      conv => lhs; rw [e]
      rw [List.flatMap_append, List.flatMap_cons]
    unfold encB
    rw [h3, List.append_assoc]
  have h4 : encB (spoil xs k t z) = (putB xs.length 2 ++ (xs.take k).flatMap nodeB) ++ (nodeB (putS (nd xs k) t z) ++ (xs.drop (k + 1)).flatMap nodeB) := by
    unfold encB
    rw [spoil_length]
    unfold spoil
    rw [split_set hk, List.flatMap_append, List.flatMap_cons, List.append_assoc]
  rw [h4, h2, nodeB_put]
  exact set_mid (by rw [List.length_append, putB_length, hl]) (by rw [nodeB_length]; omega)
theorem enc_byte {xs : List Held} {k t o : Nat} (hk : k < xs.length) (ht : t < 32) (ho : o = 2 + 36 * k + (4 + t)) : (encB xs).getD o 0 = byt (nd xs k).seed t := by
  subst ho
  rw [encB_get hk (by omega), nodeB_seed]; rfl
theorem bC_set (bs : List UInt8) (i : Nat) (z : UInt8) : (bC bs).set i (.int .u8 (z.toNat : Int)) = bC (bs.set i z) := by
  unfold bC; rw [List.map_set]
theorem enc_store {xs : List Held} {k t o : Nat} {sp : List Value} (z : UInt8) (hk : k < xs.length) (ht : t < 32) (ho : o = 2 + 36 * k + (4 + t)) : (bC (encB xs) ++ sp).set o (.int .u8 (z.toNat : Int)) = bC (encB (spoil xs k t z)) ++ sp := by
  have hl := encB_length xs
  rw [List.set_append_left _ _ (by rw [bC_length]; omega), bC_set, enc_spoil z hk ht ho]
theorem hs_store {xs : List Held} {k t o : Nat} {sp : List Value} (z : UInt8) (hk : k < xs.length) (ht : t < 32) (ho : o = k * 34 + 2 + t) : (hsC xs ++ sp).set o (.int .u8 (z.toNat : Int)) = hsC (spoil xs k t z) ++ sp := by
  have e : xs = xs.take k ++ (nd xs k :: xs.drop (k + 1)) := by rw [← nd_eq hk]; simp
  have hl : (hsC (xs.take k)).length = 34 * k := by rw [hsC_length]; simp; omega
  have hp : hC (putS (nd xs k) t z) = (hC (nd xs k)).set (2 + t) (.int .u8 (z.toNat : Int)) := by
    have e2 : 2 + t = t + 1 + 1 := by omega
    unfold hC
    rw [e2, List.set_cons_succ, List.set_cons_succ]
    show _ :: _ :: bC ((nd xs k).seed.1.set t z) = _ :: _ :: (bC (nd xs k).seed.1).set t _
    rw [bC_set]; rfl
  have h1 : hsC xs ++ sp = hsC (xs.take k) ++ (hC (nd xs k) ++ (hsC (xs.drop (k + 1)) ++ sp)) := by
    conv => lhs; rw [e]
    unfold hsC
    rw [List.flatMap_append, List.flatMap_cons]
    simp only [List.append_assoc]
  have h2 : hsC (spoil xs k t z) ++ sp = hsC (xs.take k) ++ (hC (putS (nd xs k) t z) ++ (hsC (xs.drop (k + 1)) ++ sp)) := by
    unfold spoil
    rw [split_set hk]
    unfold hsC
    rw [List.flatMap_append, List.flatMap_cons]
    simp only [List.append_assoc]
  rw [h1, h2, hp]
  exact set_mid (by omega) (by rw [hC_length]; omega)
theorem xor_u8 (x : UInt8) {c : Int} (h0 : 0 ≤ c) (h1 : c < 256) : IntKind.u8.wrap (BitVec.ofInt IntKind.u8.bits (x.toNat : Int) ^^^ BitVec.ofInt IntKind.u8.bits c).toNat = ((x ^^^ UInt8.ofNat c.toNat).toNat : Int) := by
  obtain ⟨n, rfl⟩ : ∃ n : Nat, c = (n : Int) := ⟨c.toNat, by omega⟩
  have hx := x.toNat_lt
  have hn : n < 2 ^ 8 := by omega
  have e1 : (BitVec.ofInt 8 (x.toNat : Int)).toNat = x.toNat := by rw [BitVec.ofInt_natCast, BitVec.toNat_ofNat]; exact Nat.mod_eq_of_lt hx
  have e2 : (BitVec.ofInt 8 (n : Int)).toNat = n := by rw [BitVec.ofInt_natCast, BitVec.toNat_ofNat]; exact Nat.mod_eq_of_lt hn
  have e3 : x ^^^ UInt8.ofNat n = UInt8.ofNat (x.toNat ^^^ n) := by
    apply UInt8.toNat_inj.1
    rw [UInt8.toNat_xor, UInt8.toNat_ofNat', UInt8.toNat_ofNat', Nat.mod_eq_of_lt hn, Nat.mod_eq_of_lt (Nat.xor_lt_two_pow hx hn)]
  show IntKind.u8.wrap ((BitVec.ofInt 8 (x.toNat : Int) ^^^ BitVec.ofInt 8 (n : Int)).toNat : Int) = _
  rw [BitVec.toNat_xor, e1, e2, Int.toNat_natCast, e3, UInt8.toNat_ofNat']
  have hlt := Nat.xor_lt_two_pow hx hn
  rw [w_u8' _, Nat.mod_eq_of_lt hlt]
  omega
end Go.Er
