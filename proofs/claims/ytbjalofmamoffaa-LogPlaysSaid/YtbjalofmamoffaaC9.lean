/-
  Further arguments opened: rows of structs, of bytes.
-/
import Derived.Test.YtbjalofmamoffaaC0
import Derived.Test.YtbjalofmamoffaaD4
namespace Go.Er
open Go Go.ChangeShapes Go.WideShapes Go.RowKit Go.Deep
section
variable {H : Type} {enc : TypeId × Value → H} {P : Program} {w : World} {base : Nat} {held : Bool} {fuel : Nat} {cs : List Value} {x : DataW H × List MemPlace} {t e : TypeId}
/-- bytes that are a part of something -/
theorem trod_bytesS (ht : P.underlying t = some (.slice e)) (he : P.underlying e = some (.int .u8)) (hc : P.cellsOf e = 1) (h : DataW.trod enc P w base (fun _ => true) held fuel t cs = some x) :
    ∃ y : Bd, cs = [bdV y] ∧ y.b.length ≤ y.c ∧ y.c ≤ maxLen ∧ BRow w y.a y.b := by
  rcases open_ints ht he hc h with ⟨h0, _⟩ | ⟨a, len, cap, zs, h0, hb, hl, hm, hz, _, hcell, hw⟩
  · exact ⟨⟨none, [], 0⟩, h0, Nat.le_refl _, by show 0 ≤ maxLen; exact Nat.zero_le _, BRow.nil⟩
  · simp only [if_true] at hz
    obtain ⟨U, hU⟩ := choose_lt (α := UInt8) (p := fun i u => zs.getD i 0 = (u.toNat : Int)) (n := zs.length) (fun i hi => by
      refine u8_of (hw _ ?_)
      simp [List.getD_eq_getElem?_getD, hi])
    have hlen : ((List.range len).map U).length = len := by simp
    refine ⟨⟨some a, (List.range len).map U, cap⟩, by unfold bdV; rw [hlen]; exact h0, by show _ ≤ cap; rw [hlen]; exact hl, hm, ?_⟩
    intro h1
    have h1 : 0 < ((List.range len).map U).length := h1
    rw [hlen] at h1
    have hc0 := hcell 0 (by omega)
    simp only [Addr.add, if_true] at hc0
    have ha := spot_none hc0
    obtain ⟨pre, post, T, fz, hb1, hp⟩ := row_of_cells (w := w) (b := a.block) (off := a.off) (vs := bC ((List.range len).map U)) (by rw [bC_length, hlen]; omega) (by
      intro j hj
      rw [bC_length, hlen] at hj
      have h2 := hcell j (by omega)
      rw [ha, addr_add, hU j (by omega)] at h2
      rw [h2]
      simp [bC, hj])
    exact ⟨a.block, a.off, pre, post, T, fz, congrArg some ha, hb1, hp⟩
/-- an argument that is a slice of elements, each of which is opened -/
theorem open_rows {α : Type} [Inhabited α] {f : α → List Value} {sz : Nat} (hE : Elem f sz) (h0 : 0 < sz) (Pd : α → Prop) {r : Reach} {b0 : Nat} {v : Value} {d : DataW H} {ps : List MemPlace} (ht : P.underlying t = some (.slice e)) (hc : P.cellsOf e = sz)
    (hel : ∀ fuel cs x, DataW.trod enc P w base (fun _ => true) held fuel e cs = some x → ∃ y, cs = f y ∧ Pd y) (hval : Value.okWide P w r b0 t v) (h : DataW.Trod enc P w base (fun _ => true) held t v d ps) :
    ∃ a cap ys, v = .slice a (ys : List α).length cap ∧ ys.length ≤ cap ∧ cap ≤ maxLen ∧ RRow f w a ys ∧ ∀ y ∈ ys, Pd y := by
  obtain ⟨fuel, hf⟩ := h
  rcases open_slice ht hf with ⟨h1, _⟩ | ⟨a, len, cap, m, n, D, Pl, h1, hb, hl, hm, hmm, _, hx⟩
  · have hv := okWide_slice1 ht hval
    rw [hv, List.cons.injEq] at h1
    exact ⟨none, 0, [], h1.1, Nat.le_refl _, Nat.zero_le _, fun h => absurd h (Nat.lt_irrefl _), fun y hy => nomatch hy⟩
  · have hv := okWide_slice1 ht hval
    rw [hv, List.cons.injEq] at h1
    simp only [if_true] at hmm
    subst hmm
    rw [hc] at hx
    obtain ⟨X, hX⟩ := choose_lt (α := α) (p := fun i y => w.cells? base (a.add (i * sz)) sz = some (f y) ∧ Pd y) (fun i hi => by
      obtain ⟨cs', g1, g2⟩ := hx i hi
      obtain ⟨y, rfl, hy⟩ := hel _ _ _ g2
      exact ⟨y, g1, hy⟩)
    have hlen : ((List.range len).map X).length = len := by simp
    have hget : ∀ i, i < len → ((List.range len).map X)[i]? = some (X i) := fun i hi => by simp [hi]
    refine ⟨some a, m, (List.range len).map X, by rw [hlen]; exact h1.1, by rw [hlen]; exact hl, hm, ?_, ?_⟩
    · intro hp0
      rw [hlen] at hp0
      have hcell : ∀ i j, i < len → j < sz → w.cell? (a.add (i * sz + j)) = (f (X i))[j]? := by
        intro i j hi hj
        have g1 := (hX i (by omega)).1
        obtain ⟨_, _, g3⟩ := World.cells?_some g1
        have := g3 j hj
        rwa [add_add] at this
      have ha : a = ⟨a.block, a.off, none⟩ := by
        have g1 := hcell 0 0 hp0 h0
        simp only [Nat.zero_mul, Nat.add_zero, Addr.add, if_true] at g1
        have hl0 : 0 < (f (X 0)).length := by rw [hE.len]; exact h0
        rw [List.getElem?_eq_getElem hl0] at g1
        exact spot_none g1
      obtain ⟨pre, post, T, fz, hb1, hp⟩ := row_of_cells (w := w) (b := a.block) (off := a.off) (vs := rowC f ((List.range len).map X)) (by rw [rowC_length hE, hlen]; exact Nat.mul_pos hp0 h0) (by
        intro j hj
        rw [rowC_length hE, hlen] at hj
        have hq : j / sz < len := Nat.div_lt_of_lt_mul (by rwa [Nat.mul_comm] at hj)
        have hr : j % sz < sz := Nat.mod_lt _ h0
        have g1 := hcell (j / sz) (j % sz) hq hr
        have e1 : j / sz * sz + j % sz = j := by rw [Nat.mul_comm]; exact Nat.div_add_mod j sz
        rw [e1, ha, addr_add] at g1
        rw [g1]
        have g2 := row_get hE [] (xs := (List.range len).map X) [] (off := 0) (o := j) rfl (hget _ hq) hr (by rw [Nat.zero_add]; exact e1.symm)
        simp only [List.nil_append, List.append_nil] at g2
        rw [g2])
      exact ⟨a.block, a.off, pre, post, T, fz, congrArg some ha, hb1, hp⟩
    · intro y hy
      obtain ⟨i, hi, rfl⟩ := List.mem_map.1 hy
      exact (hX i (by have := List.mem_range.1 hi; omega)).2
/-- a struct of two bytes and of bytes -/
structure DoD (P : Program) (T : TypeId) : Prop where
  cells : P.cellsOf T = 3
  fs : ∃ (fs : Array Field) (f0 f1 f2 : Field) (e : TypeId), P.underlying T = some (.struct fs) ∧ fs = #[f0, f1, f2] ∧ f0.offset = 0 ∧ f1.offset = 1 ∧ f2.offset = 2 ∧ P.cellsOf f0.type = 1 ∧ P.cellsOf f1.type = 1 ∧ P.cellsOf f2.type = 1 ∧
    P.underlying f0.type = some (.int .u8) ∧ P.underlying f1.type = some (.int .u8) ∧ P.underlying f2.type = some (.slice e) ∧ P.underlying e = some (.int .u8) ∧ P.cellsOf e = 1
def DoOK (w : World) (y : DoL) : Prop := (0 ≤ y.kind ∧ y.kind < 256) ∧ (0 ≤ y.n ∧ y.n < 256) ∧ BRow w y.body.a y.body.b
theorem u8_rng' {n : Int} (h : (Lit.int .u8 n).wf = true) : 0 ≤ n ∧ n < 256 := by
  obtain ⟨u, rfl⟩ := u8_of h
  have := u.toNat_lt
  omega
theorem trod_do (hn : DoD P t) (h : DataW.trod enc P w base (fun _ => true) held fuel t cs = some x) : ∃ y : DoL, cs = doC y ∧ DoOK w y := by
  obtain ⟨fs, f0, f1, f2, e, hu, rfl, o0, o1, o2, c0, c1, c2, u0, u1, u2, ue, ce⟩ := hn.fs
  obtain ⟨xs, n, _, _, hl, hxl, hx⟩ := DataW.trod_struct hu h
  rw [hn.cells] at hl
  have hxl : xs.length = 3 := hxl
  have g0 := hx 0 f0 rfl
  have g1 := hx 1 f1 rfl
  have g2 := hx 2 f2 rfl
  rw [List.getElem?_eq_getElem (by omega)] at g0 g1 g2
  rw [o0, c0, one_td cs 0 undef (by omega)] at g0
  rw [o1, c1, one_td cs 1 undef (by omega)] at g1
  rw [o2, c2, one_td cs 2 undef (by omega)] at g2
  obtain ⟨k, hk, _, wk⟩ := DataW.trod_int u0 g0
  obtain ⟨m, hm, _, wm⟩ := DataW.trod_int u1 g1
  obtain ⟨y, hy, _, _, hr⟩ := trod_bytesS u2 ue ce g2
  refine ⟨⟨k, m, y⟩, ?_, u8_rng' wk, u8_rng' wm, hr⟩
  match cs, hl with
  | [p, q, r], _ =>
    have h0 : p = .int .u8 k := by simpa using hk
    have h1 : q = .int .u8 m := by simpa using hm
    have h2 : r = bdV y := by simpa using hy
    rw [h0, h1, h2]; rfl
instance : Inhabited DoL := ⟨doZ⟩
theorem open_dos {r : Reach} {b0 : Nat} {v : Value} {d : DataW H} {ps : List MemPlace} (ht : P.underlying t = some (.slice e)) (hn : DoD P e) (hval : Value.okWide P w r b0 t v) (h : DataW.Trod enc P w base (fun _ => true) held t v d ps) :
    ∃ a cap ys, v = .slice a (ys : List DoL).length cap ∧ ys.length ≤ cap ∧ cap ≤ maxLen ∧ RRow doC w a ys ∧ (∀ i, i < ys.length → 0 ≤ (dl ys i).n ∧ (dl ys i).n < 256) ∧ ∀ i, i < ys.length → BRow w (dl ys i).body.a (dl ys i).body.b := by
  obtain ⟨a, cap, ys, h1, h2, h3, h4, h5⟩ := open_rows elDo (by decide) (DoOK w) ht hn.cells (fun _ _ _ h => trod_do hn h) hval h
  exact ⟨a, cap, ys, h1, h2, h3, h4, fun i hi => (h5 _ (dl_mem hi)).2.1, fun i hi => (h5 _ (dl_mem hi)).2.2⟩
end
end Go.Er
