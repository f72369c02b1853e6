/-
  Rows of whole numbers that are appended.
-/
import Derived.Test.YtbjalofmamoffaaT2
import Derived.Test.YtbjalofmamoffaaK5
namespace Go.Er
open Go
section
variable {P : Program} {w w0 : World} {X : List Nat} {L N : List (Nat × Obj)} {a : Option Addr}
theorem uC_one (ns : List Int) : ∀ v ∈ uC ns, v.oneCell' = true := by
  intro v hv
  obtain ⟨n, _, rfl⟩ := List.mem_map.1 hv
  rfl
theorem URow.src {ns : List Int} (h : URow w a ns) (c : Nat) : Src P w 1 (.slice a ns.length c) ns.length (uC ns) := by
  refine ⟨by simp [Builtin.lenOf], fun k => ?_, by rw [uC_length]; omega, uC_one ns⟩
  by_cases h0 : 0 < ns.length
  · obtain ⟨b, off, pre, post, T, fz, rfl, hb, hp⟩ := h h0
    simp only [Builtin.firstCells]
    refine run_loadRow (w := { w with drawn := k }) hb ?_ (by rw [uC_length]; omega)
    subst hp
    rw [List.append_assoc, List.drop_append, List.drop_of_length_le (Nat.le_refl _), List.nil_append, Nat.sub_self, List.drop_zero, List.take_append, List.take_of_length_le (by rw [uC_length]; omega)]
    have : ns.length * 1 - (uC ns).length = 0 := by rw [uC_length]; omega
    rw [this]; simp
  · have e : ns = [] := List.length_eq_zero_iff.1 (by omega)
    subst e
    cases a with
    | none => simp [Builtin.firstCells, uC]
    | some a =>
      simp only [Builtin.firstCells]
      refine run_loadCells_list (P := P) { w with drawn := k } a [] fun j v hj => ?_
      simp at hj
theorem URow.st {ns : List Int} (h : URow w0 a ns) (H : St w0 [] w L) : URow w a ns := by
  intro hx
  obtain ⟨b, off, pre, post, T, fz, e, hb, hp⟩ := h hx
  exact ⟨b, off, pre, post, T, fz, e, H.rd0 hb, hp⟩
theorem U64.cons {ns : List Int} {q : Int} (h0 : 0 ≤ q) (h1 : q < 18446744073709551616) (h : U64 ns) : U64 (q :: ns) := by
  intro n hn
  rcases List.mem_cons.1 hn with rfl | hn
  · exact ⟨h0, h1⟩
  · exact h n hn
end
end Go.Er
