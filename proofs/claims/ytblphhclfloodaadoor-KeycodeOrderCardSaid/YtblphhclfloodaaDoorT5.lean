/-
  Nodes in another order, or twice, may not be held.
-/
import Derived.Test.YtblphhclfloodaaDoorT2
import Derived.Test.YtblphhclfloodaaDoorD9
import Derived.Test.YtblphhclfloodaaDoorK8
namespace Go.Er
open Go
theorem okFrom.rise : ∀ {xs : List Held} {e : Int}, okFrom e xs → ∀ i j, i < j → j < xs.length → (nd xs i).at_ < (nd xs j).at_
  | [], _, _, _, _, _, hj => absurd hj (Nat.not_lt_zero _)
  | h :: t, e, hv, 0, 0, hij, _ => absurd hij (Nat.lt_irrefl _)
  | h :: t, e, hv, 0, j + 1, _, hj => by
    have h1 := (hv.2.2.get j (by simp only [List.length_cons] at hj; omega)).2
    have h2 := many_pos h.depth
    show h.at_ < (nd t j).at_
    omega
  | h :: t, e, hv, i + 1, 0, hij, _ => absurd hij (Nat.not_lt_zero _)
  | h :: t, e, hv, i + 1, j + 1, hij, hj => okFrom.rise hv.2.2 i j (by omega) (by simp only [List.length_cons] at hj; omega)
theorem swap_bad {xs : List Held} (hv : Valid xs) {k : Nat} (hk : k + 1 < xs.length) : ¬ Valid (swp2 Held.zero xs k (k + 1)) := by
  intro h
  have hl := swp2_length (d := Held.zero) xs k (k + 1)
  have h1 := hv.rise k (k + 1) (by omega) hk
  have h2 := h.rise k (k + 1) (by omega) (by rw [hl]; exact hk)
  have e := fun p => swp2_get (d := Held.zero) xs (i := k) (j := k + 1) (by omega) hk p
  have e0 : nd (swp2 Held.zero xs k (k + 1)) k = nd xs (k + 1) := by
    unfold nd; rw [e, if_neg (by omega), if_pos rfl]
  have e1 : nd (swp2 Held.zero xs k (k + 1)) (k + 1) = nd xs k := by
    unfold nd; rw [e, if_pos rfl]
  rw [e0, e1] at h2
  omega
theorem twice_bad {xs : List Held} {k : Nat} (hk : k < xs.length) : ¬ Valid (xs.take (k + 1) ++ xs.drop k) := by
  intro h
  have hl : (xs.take (k + 1)).length = k + 1 := by rw [List.length_take]; omega
  have h2 := h.rise k (k + 1) (by omega) (by rw [List.length_append, hl, List.length_drop]; omega)
  have e0 : nd (xs.take (k + 1) ++ xs.drop k) k = nd xs k := by
    unfold nd; rw [List.getD_eq_getElem?_getD, List.getD_eq_getElem?_getD, List.getElem?_append_left (by omega), List.getElem?_take]; simp
  have e1 : nd (xs.take (k + 1) ++ xs.drop k) (k + 1) = nd xs k := by
    unfold nd; rw [List.getD_eq_getElem?_getD, List.getD_eq_getElem?_getD, List.getElem?_append_right (by omega), hl, List.getElem?_drop]; simp
  rw [e0, e1] at h2
  omega
theorem src_take {P : Program} {w : World} {b n : Nat} {ys : List Held} {sp : List Value} {E : TypeId} (hb : w.heap[b]? = some (.cells (hsC ys ++ sp).toArray E (0, 0))) (hn : n ≤ ys.length) (c : Nat) : Src P w 34 (.slice (some ⟨b, 0, none⟩) n c) n (hsC (ys.take n)) := by
  have hl : (ys.take n).length = n := by rw [List.length_take]; omega
  have h : HRow w (some ⟨b, 0, none⟩) (ys.take n) := fun _ => ⟨b, 0, [], hsC (ys.drop n) ++ sp, E, (0, 0), rfl, by rw [hb, List.nil_append, ← hs_part], rfl⟩
  have h1 := h.src (P := P) c
  rw [hl] at h1
  exact h1
theorem swap_inR {xs : List Held} (hv : Valid xs) {k : Nat} (hk : k + 1 < xs.length) : ∀ i, i < (swp2 Held.zero xs k (k + 1)).length → InR (nd (swp2 Held.zero xs k (k + 1)) i) := by
  intro i hi
  rw [swp2_length] at hi
  have e := swp2_get (d := Held.zero) xs (i := k) (j := k + 1) (by omega) hk i
  have h1 : nd (swp2 Held.zero xs k (k + 1)) i = if i = k + 1 then nd xs k else if i = k then nd xs (k + 1) else nd xs i := e
  rw [h1]
  split
  · exact hv.inR _ (by omega)
  · split
    · exact hv.inR _ hk
    · exact hv.inR _ hi
theorem twice_inR {xs : List Held} (hv : Valid xs) {k : Nat} (hk : k < xs.length) : ∀ i, i < (xs.take (k + 1) ++ xs.drop k).length → InR (nd (xs.take (k + 1) ++ xs.drop k) i) := by
  intro i hi
  have hl : (xs.take (k + 1)).length = k + 1 := by rw [List.length_take]; omega
  rw [List.length_append, hl, List.length_drop] at hi
  by_cases h : i < k + 1
  · have e : nd (xs.take (k + 1) ++ xs.drop k) i = nd xs i := by
      unfold nd; rw [List.getD_eq_getElem?_getD, List.getD_eq_getElem?_getD, List.getElem?_append_left (by omega), List.getElem?_take, if_pos h]
    rw [e]; exact hv.inR _ (by omega)
  · have e : nd (xs.take (k + 1) ++ xs.drop k) i = nd xs (i - 1) := by
      unfold nd; rw [List.getD_eq_getElem?_getD, List.getD_eq_getElem?_getD, List.getElem?_append_right (by omega), hl, List.getElem?_drop]
      congr 2; omega
    rw [e]; exact hv.inR _ (by omega)
end Go.Er
