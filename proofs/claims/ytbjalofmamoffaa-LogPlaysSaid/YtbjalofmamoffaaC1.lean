/-
  Further arguments opened: a key, a row of whole numbers.
-/
import Derived.Test.YtbjalofmamoffaaC0
import Derived.Test.YtbjalofmamoffaaT0
namespace Go.Er
open Go Go.ChangeShapes Go.WideShapes Go.RowKit Go.Deep
section
variable {H : Type} {enc : TypeId × Value → H} {P : Program} {w : World} {base : Nat} {spare : Nat → Bool} {held : Bool} {t e : TypeId}

/-- an argument that is an array of bytes -/
theorem open_key {n : Nat} {r : Reach} {b0 : Nat} {v : Value} {d : DataW H} {ps : List MemPlace} (ht : P.underlying t = some (.array n e)) (he : P.underlying e = some (.int .u8)) (hc : P.cellsOf e = 1) (hct : P.cellsOf t = n) (hval : Value.okWide P w r b0 t v) (h : DataW.Trod enc P w base spare held t v d ps) :
    ∃ k : By n, v = .agg (kC k).toArray := by
  unfold Value.okWide at hval
  rw [ht] at hval
  obtain ⟨cs, rfl, _⟩ := hval
  obtain ⟨fuel, hf⟩ := h
  obtain ⟨k, hk⟩ := trod_bytes ht he hc hct hf
  refine ⟨k, congrArg Value.agg ?_⟩
  rw [← hk]
  rfl
/-- an argument that is a slice of whole numbers of 64 bits -/
theorem open_u64s {r : Reach} {b0 : Nat} {v : Value} {d : DataW H} {ps : List MemPlace} (ht : P.underlying t = some (.slice e)) (he : P.underlying e = some (.int .u64)) (hc : P.cellsOf e = 1) (hval : Value.okWide P w r b0 t v) (h : DataW.Trod enc P w base (fun _ => true) held t v d ps) :
    ∃ a cap ns, v = .slice a (ns : List Int).length cap ∧ ns.length ≤ cap ∧ cap ≤ maxLen ∧ URow w a ns ∧ U64 ns := by
  obtain ⟨fuel, hf⟩ := h
  rcases open_ints ht he hc hf with ⟨h0, _⟩ | ⟨a, len, cap, zs, h0, hb, hl, hm, hz, _, hcell, hw⟩
  · have hv := okWide_slice1 ht hval
    rw [hv, List.cons.injEq] at h0
    exact ⟨none, 0, [], h0.1, Nat.le_refl _, by decide, fun h => absurd h (Nat.lt_irrefl _), fun _ h => nomatch h⟩
  · have hv := okWide_slice1 ht hval
    rw [hv, List.cons.injEq] at h0
    simp only [if_true] at hz
    have hlen : (zs.take len).length = len := by rw [List.length_take]; omega
    refine ⟨some a, cap, zs.take len, by rw [hlen]; exact h0.1, by rw [hlen]; exact hl, hm, ?_, ?_⟩
    · intro h1
      rw [hlen] at h1
      have hc0 := hcell 0 (by omega)
      simp only [Addr.add, if_true] at hc0
      have ha := spot_none hc0
      obtain ⟨pre, post, T, fz, hb1, hp⟩ := row_of_cells (w := w) (b := a.block) (off := a.off) (vs := uC (zs.take len)) (by rw [uC_length, hlen]; omega) (by
        intro j hj
        rw [uC_length, hlen] at hj
        have h2 := hcell j (by omega)
        rw [ha, addr_add] at h2
        rw [h2]
        simp [uC, List.getD_eq_getElem?_getD, hj, List.getElem?_eq_getElem (show j < zs.length by omega)])
      exact ⟨a.block, a.off, pre, post, T, fz, congrArg some ha, hb1, hp⟩
    · intro n hn
      have h1 := hw n (List.mem_of_mem_take hn)
      simp only [Lit.wf, Bool.and_eq_true, decide_eq_true_eq] at h1
      have a1 : (0 : Int) ≤ n := by simpa [IntKind.min, IntKind.signed, IntKind.bits] using h1.1
      have a2 : n ≤ 18446744073709551615 := by simpa [IntKind.max, IntKind.signed, IntKind.bits] using h1.2
      exact ⟨a1, by omega⟩
end
theorem u8_rng {n : Int} (h : (Lit.int .u8 n).wf = true) : 0 ≤ n ∧ n < 256 := by
  obtain ⟨u, rfl⟩ := u8_of h
  have := u.toNat_lt
  omega
theorem u16_rng {n : Int} (h : (Lit.int .u16 n).wf = true) : 0 ≤ n ∧ n < 65536 := by
  simp only [Lit.wf, Bool.and_eq_true, decide_eq_true_eq] at h
  have a1 : (0 : Int) ≤ n := by simpa [IntKind.min, IntKind.signed, IntKind.bits] using h.1
  have a2 : n ≤ 65535 := by simpa [IntKind.max, IntKind.signed, IntKind.bits] using h.2
  omega
theorem u64_rng {n : Int} (h : (Lit.int .u64 n).wf = true) : 0 ≤ n ∧ n < 18446744073709551616 := by
  simp only [Lit.wf, Bool.and_eq_true, decide_eq_true_eq] at h
  have a1 : (0 : Int) ≤ n := by simpa [IntKind.min, IntKind.signed, IntKind.bits] using h.1
  have a2 : n ≤ 18446744073709551615 := by simpa [IntKind.max, IntKind.signed, IntKind.bits] using h.2
  omega
end Go.Er
