/-
  The plain law of shapes of segments, of the first free one, of what a log's segments have.
-/
import Derived.Test.YtbjalofmamoffaaS1
import Derived.Test.YtbjalofmamoffaaT6
import Derived.Test.YtbjalofmamoffaaG1
namespace Go.Er
open Go
def shC (g z : Int) : List Value := [.int .i64 g, .int .i64 z]
theorem shC_length (g z : Int) : (shC g z).length = 2 := rfl
theorem shC_one (g z : Int) : ∀ v ∈ shC g z, v.oneCell' = true := by
  intro v hv
  simp only [shC, List.mem_cons, List.not_mem_nil, or_false] at hv
  rcases hv with rfl | rfl <;> rfl
theorem shC_td (g z : Int) : ((shC g z).drop 0).take 2 = shC g z := rfl
theorem gz_rng {g z : Int} (h0 : 0 ≤ g) (h1 : g ≤ 64) (h2 : 0 ≤ z) (h3 : z ≤ 32) : 0 ≤ g * z ∧ g * z ≤ 2048 := by
  have a := Int.mul_nonneg h0 h2
  have b : g * z ≤ 64 * z := Int.mul_le_mul_of_nonneg_right h1 h2
  omega
theorem sz_rng {s g z : Int} (h0 : 0 ≤ s) (h1 : s < g) (h2 : 0 ≤ z) : 0 ≤ s * z ∧ s * z + z ≤ g * z := by
  have a := Int.mul_nonneg h0 h2
  have b : (s + 1) * z ≤ g * z := Int.mul_le_mul_of_nonneg_right (by omega) h2
  rw [Int.add_mul, Int.one_mul] at b
  omega
/-- the first number that is nought; -1: there is none -/
def firstZ (ns : List Int) : Int := match ns.findIdx? (· == 0) with
  | some i => (i : Int)
  | none => -1
theorem firstZ_some {ns : List Int} {i : Nat} (hi : i < ns.length) (h0 : ns.getD i 0 = 0) (hlt : ∀ j, j < i → ns.getD j 0 ≠ 0) : firstZ ns = (i : Int) := by
  have h : ns.findIdx? (· == 0) = some i := by
    rw [List.findIdx?_eq_some_iff_getElem]
    refine ⟨hi, ?_, ?_⟩
    · rw [List.getD_eq_getElem?_getD, List.getElem?_eq_getElem hi] at h0
      simpa using h0
    · intro j hj
      have := hlt j hj
      rw [List.getD_eq_getElem?_getD, List.getElem?_eq_getElem (by omega)] at this
      simpa using this
  unfold firstZ; rw [h]
theorem firstZ_none {ns : List Int} (hlt : ∀ j, j < ns.length → ns.getD j 0 ≠ 0) : firstZ ns = -1 := by
  have h : ns.findIdx? (· == 0) = none := by
    rw [List.findIdx?_eq_none_iff]
    intro x hx
    obtain ⟨j, hj, rfl⟩ := List.getElem_of_mem hx
    have := hlt j hj
    rw [List.getD_eq_getElem?_getD, List.getElem?_eq_getElem hj] at this
    simpa using this
  unfold firstZ; rw [h]
theorem firstZ_cases (ns : List Int) : (firstZ ns = -1 ∧ ∀ x ∈ ns, x ≠ 0) ∨ ∃ i : Nat, i < ns.length ∧ firstZ ns = (i : Int) ∧ ns.getD i 0 = 0 := by
  unfold firstZ
  cases h : ns.findIdx? (· == 0) with
  | none =>
    left
    rw [List.findIdx?_eq_none_iff] at h
    exact ⟨rfl, fun x hx e => by have := h x hx; simp [e] at this⟩
  | some i =>
    right
    rw [List.findIdx?_eq_some_iff_getElem] at h
    obtain ⟨hi, h0, _⟩ := h
    refine ⟨i, hi, rfl, ?_⟩
    rw [List.getD_eq_getElem?_getD, List.getElem?_eq_getElem hi]
    simpa using h0
end Go.Er
