/-
  Rows of nodes that are turned.
-/
import Derived.Test.YtbjalofmamoffaaP8
import Derived.Test.YtbjalofmamoffaaK5
namespace Go.Er
open Go
theorem hs_splice (ys : List Held) (sp : List Value) (x : Held) {off : Nat} (i : Nat) (hi : i < ys.length) (ho : off = i * 34) : splice (hsC ys ++ sp) off (hC x) = hsC (ys.set i x) ++ sp := by
  subst ho
  have e : ys = ys.take i ++ (ys[i] :: ys.drop (i + 1)) := by simp
  have hl : (hsC (ys.take i)).length = i * 34 := by rw [hsC_length]; simp; omega
  have h1 : hsC ys = hsC (ys.take i) ++ (hC ys[i] ++ hsC (ys.drop (i + 1))) := by rw [← hsC_cons, ← hsC_append, ← e]
  have h2 : hsC (ys.set i x) = hsC (ys.take i) ++ (hC x ++ hsC (ys.drop (i + 1))) := by
    rw [← hsC_cons, ← hsC_append]
    congr 1
    rw [List.set_eq_take_append_cons_drop, if_pos hi]
  unfold splice
  rw [h1, h2, List.append_assoc, List.append_assoc, List.take_append, List.take_of_length_le (by omega), hl, Nat.sub_self, List.take_zero, List.append_nil, List.drop_append, List.drop_of_length_le (by rw [hl, hC_length]; omega), List.nil_append, hl, hC_length]
  have h3 : i * 34 + 34 - i * 34 = 34 := by omega
  have h4 : ((hC ys[i] ++ hsC (ys.drop (i + 1))) ++ sp).drop 34 = hsC (ys.drop (i + 1)) ++ sp := by
    rw [List.append_assoc, List.drop_append, List.drop_of_length_le (by rw [hC_length]; omega), hC_length]
    simp
  rw [h3, h4]
  simp
theorem hs_room (ys : List Held) (sp : List Value) {off : Nat} (i : Nat) (hi : i < ys.length) (ho : off = i * 34) : off + 34 ≤ (hsC ys ++ sp).length := by
  subst ho; rw [List.length_append, hsC_length]; omega
theorem hs_ld (ys : List Held) (sp : List Value) {off : Nat} (i : Nat) (hi : i < ys.length) (ho : off = i * 34) : ((hsC ys ++ sp).drop off).take 34 = hC (nd ys i) := by
  subst ho
  have := hs_tdn [] ys sp 0 i rfl hi
  rw [Nat.zero_add] at this
  exact this
theorem hs_ld1 (ys : List Held) (sp : List Value) {off : Nat} (i : Nat) (hi : i < ys.length) (ho : off = i * 34 + 1) : (hsC ys ++ sp)[off]? = some (.int .u64 (nd ys i).at_) := by
  subst ho
  have := hs_at [] ys sp 0 i rfl hi
  rw [Nat.zero_add] at this
  exact this
theorem nd_set_ne {ys : List Held} {i j : Nat} {x : Held} (h : i ≠ j) : nd (ys.set i x) j = nd ys j := by
  simp [nd, List.getD_eq_getElem?_getD, h]
theorem swp_of (ys : List Held) (i j : Nat) : (ys.set i (nd ys j)).set j (nd ys i) = swp2 Held.zero ys i j := rfl
end Go.Er
