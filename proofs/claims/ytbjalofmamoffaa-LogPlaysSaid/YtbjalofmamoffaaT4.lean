/-
  Bytes of nodes that are cut short, or have more.
-/
import Derived.Test.YtbjalofmamoffaaT2
import Derived.Test.YtbjalofmamoffaaF7
namespace Go.Er
open Go
section
variable {P : Program} {w : World} {a : Option Addr}
theorem BRow.src {bs : List UInt8} (h : BRow w a bs) (c : Nat) : Src P w 1 (.slice a bs.length c) bs.length (bC bs) := by
  refine ⟨by simp [Builtin.lenOf], fun k => ?_, by rw [bC_length]; omega, bC_one bs⟩
  by_cases h0 : 0 < bs.length
  · obtain ⟨b, off, pre, post, T, fz, rfl, hb, hp⟩ := h h0
    simp only [Builtin.firstCells]
    refine run_loadRow (w := { w with drawn := k }) hb ?_ (by rw [bC_length]; omega)
    subst hp
    rw [List.append_assoc, List.drop_append, List.drop_of_length_le (Nat.le_refl _), List.nil_append, Nat.sub_self, List.drop_zero, List.take_append, List.take_of_length_le (by rw [bC_length]; omega)]
    have : bs.length * 1 - (bC bs).length = 0 := by rw [bC_length]; omega
    rw [this]; simp
  · have e : bs = [] := List.length_eq_zero_iff.1 (by omega)
    subst e
    cases a with
    | none => simp [Builtin.firstCells, bC]
    | some a =>
      simp only [Builtin.firstCells]
      refine run_loadCells_list (P := P) { w with drawn := k } a [] fun j v hj => ?_
      simp at hj
end
theorem bt_app {p q : List UInt8} {i : Nat} (h : i < p.length) : bt (p ++ q) i = bt p i := by
  unfold bt
  rw [List.getD_eq_getElem?_getD, List.getD_eq_getElem?_getD, List.getElem?_append_left h]
theorem cut_no {xs : List Held} {cs : List UInt8} (hl : xs.length ≤ 65535) (hc : cs = (encB xs).take cs.length) (hk : cs.length < (encB xs).length) : ¬ OkB cs := by
  rintro ⟨n, ⟨h2, hs⟩, _, _⟩
  have e : cs ++ (encB xs).drop cs.length = encB xs := by
    conv => lhs; lhs; rw [hc]
    exact List.take_append_drop _ _
  have h0 : bt cs 0 = bt (encB xs) 0 := by rw [← e, bt_app (by omega)]
  have h1 : bt cs 1 = bt (encB xs) 1 := by rw [← e, bt_app (by omega)]
  rw [h0, h1, encB_head hl] at hs
  rw [encB_length] at hk
  omega
theorem more_shape {xs : List Held} {ms : List UInt8} (hl : xs.length ≤ 65535) (h : Shape (encB xs ++ ms)) : ms.length = 0 := by
  obtain ⟨h2, hs⟩ := h
  have hb := encB_length xs
  rw [bt_app (by omega), bt_app (by omega), encB_head hl, List.length_append, hb] at hs
  omega
theorem more_ok {xs : List Held} {ms : List UInt8} (hl : xs.length ≤ 65535) (hv : Valid xs) (h : ¬ OkB (encB xs ++ ms)) : 0 < ms.length := by
  rcases Nat.eq_zero_or_pos ms.length with h0 | h0
  · rw [List.length_eq_zero_iff.1 h0, List.append_nil] at h
    exact absurd (okB_enc hl hv) h
  · exact h0
end Go.Er
