import Derived.WalkKit
import Derived.ProofKit
import Derived.OpenShut
import Derived.Carry
import Derived.Deep.Slices
import Derived.Deep.DeepHandedRow
import Derived.Lib.LaidTab
import Derived.Test.YtobfnieebiakeaaPVx1
/-
  The laws' two ends: arguments are opened into data, and what a quiet call leaves is told.
-/
namespace Go.Er
open Go Go.ChangeShapes Go.WideShapes Go.RowKit Go.Deep

instance : Inhabited Held := ⟨Held.zero⟩
theorem one_td {α : Type} (l : List α) (i : Nat) (d : α) (h : i < l.length) : (l.drop i).take 1 = [l.getD i d] := by
  rw [List.drop_eq_getElem_cons h, List.take_succ_cons, List.take_zero, List.getD_eq_getElem?_getD, List.getElem?_eq_getElem h]; rfl

/-! ### A row out of its cells -/
theorem row_of_cells {w : World} {b off : Nat} {vs : List Value} (h0 : 0 < vs.length) (h : ∀ j, j < vs.length → w.cell? ⟨b, off + j, none⟩ = vs[j]?) :
    ∃ pre post T fz, w.heap[b]? = some (.cells (pre ++ vs ++ post).toArray T fz) ∧ pre.length = off := by
  have hx := h 0 h0
  rw [List.getElem?_eq_getElem h0] at hx
  simp only [World.cell?] at hx
  cases hb : w.heap[b]? with
  | none => rw [hb] at hx; simp at hx
  | some o =>
    cases o with
    | cells c T fz =>
      have hc : ∀ j, j < vs.length → c[off + j]? = vs[j]? := by
        intro j hj
        have := h j hj
        simpa [World.cell?, hb] using this
      have hsz : off + vs.length ≤ c.size := by
        have := hc (vs.length - 1) (by omega)
        rw [List.getElem?_eq_getElem (by omega)] at this
        have := (Array.getElem?_eq_some_iff.1 this).1
        omega
      refine ⟨c.toList.take off, c.toList.drop (off + vs.length), T, fz, ?_, by simp; omega⟩
      congr 2
      rw [← Array.toList_inj]
      apply List.ext_getElem?
      intro i
      rw [List.append_assoc]
      by_cases h1 : i < off
      · rw [List.getElem?_append_left (by simp; omega), List.getElem?_take, if_pos h1]
      · rw [List.getElem?_append_right (by simp; omega)]
        have hl : (c.toList.take off).length = off := by simp; omega
        rw [hl]
        by_cases h2 : i - off < vs.length
        · rw [List.getElem?_append_left h2, ← hc _ h2]
          have : off + (i - off) = i := by omega
          rw [this]; simp
        · rw [List.getElem?_append_right (by omega), List.getElem?_drop]
          congr 1
          omega
    | _ => rw [hb] at hx; simp at hx

/-! ### Down -/
section
variable {H : Type} {enc : TypeId × Value → H} {P : Program} {w : World} {base : Nat} {spare : Nat → Bool} {held : Bool} {fuel : Nat} {cs : List Value} {x : DataW H × List MemPlace} {t e : TypeId}

theorem u8_of {n : Int} (h : (Lit.int .u8 n).wf = true) : ∃ u : UInt8, n = (u.toNat : Int) := by
  simp only [Lit.wf, Bool.and_eq_true, decide_eq_true_eq] at h
  have h1 : (0 : Int) ≤ n := by simpa [IntKind.min, IntKind.signed] using h.1
  have h2 : n ≤ 255 := by simpa [IntKind.max, IntKind.signed, IntKind.bits] using h.2
  exact ⟨UInt8.ofNat n.toNat, by rw [UInt8.toNat_ofNat']; omega⟩

/-- bytes, cell by cell -/
theorem bytes_of {n : Nat} {vs : List Value} (hn : vs.length = n) (h : ∀ i, i < n → ∃ u : UInt8, vs[i]? = some (.int .u8 (u.toNat : Int))) : ∃ k : By n, vs = kC k := by
  obtain ⟨f, hf⟩ := choose_lt (α := UInt8) (p := fun i u => vs[i]? = some (.int .u8 (u.toNat : Int))) h
  obtain ⟨k, hk⟩ : ∃ k : By n, k.1 = (List.range n).map f := ⟨⟨(List.range n).map f, by simp⟩, rfl⟩
  refine ⟨k, ?_⟩
  have e : kC k = bC ((List.range n).map f) := by unfold kC; rw [hk]
  rw [e]
  apply List.ext_getElem?
  intro i
  by_cases hi : i < n
  · rw [hf i hi]; simp [bC, hi]
  · rw [List.getElem?_eq_none (by omega), List.getElem?_eq_none (by rw [bC_length]; simp; omega)]

theorem trod_bytes {n : Nat} (ht : P.underlying t = some (.array n e)) (he : P.underlying e = some (.int .u8)) (hc : P.cellsOf e = 1) (hct : P.cellsOf t = n) (h : DataW.trod enc P w base spare held fuel t cs = some x) : ∃ k : By n, cs = kC k := by
  obtain ⟨xs, m, _,_, hl, hxl, hx⟩ := DataW.trod_array ht h
  rw [hct] at hl
  refine bytes_of hl fun i hi => ?_
  have h1 := hx i hi
  rw [hc, Nat.mul_one, one_td cs i undef (by omega), List.getElem?_eq_getElem (by omega)] at h1
  obtain ⟨z, hz, _, hw⟩ := DataW.trod_int he h1
  obtain ⟨u, rfl⟩ := u8_of hw
  refine ⟨u, ?_⟩
  simp only [List.cons.injEq, and_true] at hz
  rw [← hz]
  simp [List.getD_eq_getElem?_getD, List.getElem?_eq_getElem (show i < cs.length by omega)]

theorem okWide_slice1 {r : Reach} {v : Value} (ht : P.underlying t = some (.slice e)) (h : Value.okWide P w r base t v) : v.cells.toList = [v] := by
  obtain ⟨a, len, cap, rfl⟩ := okWide_slice ht h
  rfl

theorem spot_none {a : Addr} {v : Value} (h : w.cell? a = some v) : a = ⟨a.block, a.off, none⟩ := by
  obtain ⟨b, o, s⟩ := a
  have := World.cell?_spot h
  simp at this
  subst this; rfl

/-! ### Up -/
theorem trodAll_stay (hl : laidOutB P = true) {W W' : World} {sp' : Nat → Bool} (hbel : Below W.heap.size W W') : ∀ {ts : List TypeId} {vs : List Value} {ds : List (DataW H)} {ps : List MemPlace}, (ts.all fun t => P.readableRec t && decide (t < P.types.size)) = true →
    DataW.TrodAll enc P W 0 (fun _ => true) true ts vs ds ps → (∀ p ∈ ps, p.block < W.heap.size) → (∀ p ∈ ps, sp' p.block = true) → DataW.TrodAll enc P W' 0 sp' true ts vs ds ps
  | [], vs, ds, ps, _, h, _,_ => by obtain ⟨rfl, rfl, rfl⟩ := trodAll_nil h; exact trodAll_mk0
  | t :: ts, vs, ds, ps, hr, h, hlt, hs => by
    obtain ⟨v, vs', d, ds', p, q, rfl, rfl, rfl, h1, h2⟩ := trodAll_cons h
    simp only [List.all_cons, Bool.and_eq_true, decide_eq_true_eq] at hr
    exact trodAll_cons_mk (WideElems.Trod_stays hl hr.1.1 hr.1.2 h1 (fun x hx => hbel.same (hlt x (List.mem_append_left _ hx))) (fun x hx => hs x (List.mem_append_left _ hx)))
      (trodAll_stay hl hbel hr.2 h2 (fun x hx => hlt x (List.mem_append_right _ hx)) (fun x hx => hs x (List.mem_append_right _ hx)))

/-- behind a quiet call that tells true -/
theorem law_post {f : Func} {s : ChangeSpec} {apart fresh handsOn again : Bool} {W W' : World} {args : Array Value} {ds gs : List (DataW H)} {before : List MemPlace} {tb : TypeId}
    (hl : laidOutB P = true) (hpr : (f.params.toList.all fun t => P.readableRec t && decide (t < P.types.size)) = true) (hrt : f.resultTypes = #[tb]) (htb : P.underlying tb = some .bool) (hv0 : s.vars = [])
    (hW : DataW.Whole enc P f.params.toList s.vars apart W args.toList ds gs before) (hres : (s.fn H (ds ++ gs)).results = [.lit (.bool true)]) (hargs : (s.fn H (ds ++ gs)).args = ds) (hvars : (s.fn H (ds ++ gs)).vars = [])
    (hb : Below W.heap.size W W') : s.post enc P f apart fresh handsOn again W args (.bool true) W' := by
  have hlt : ∀ p ∈ before, p.block < W.heap.size := hW.lt
  have hW0 := hW
  obtain ⟨p, q, hA, hV, he, hz, hnd⟩ := hW
  rw [hv0] at hV
  obtain ⟨rfl, rfl⟩ := trodVars_none hV
  rw [List.append_nil] at he
  subst he
  have hR : ∀ (b : Nat) (sp : Nat → Bool) (hd : Bool), DataW.TrodAll enc P W' b sp hd f.resultTypes.toList ((Value.bool true).resultList f.resultTypes.size) (s.fn H (ds ++ [])).results [] := by
    intro b sp hd
    rw [hres, hrt]
    exact trodAll_mk1 (shut_bool htb _)
  have hA' : ∀ sp : Nat → Bool, (∀ x ∈ before, sp x.block = true) → DataW.TrodAll enc P W' 0 sp true f.params.toList args.toList (s.fn H (ds ++ [])).args before := by
    intro sp hsp
    rw [hargs]
    exact trodAll_stay hl hb hpr hA hlt hsp
  have hV' : ∀ sp : Nat → Bool, DataW.TrodVars enc P W' sp s.vars (s.fn H (ds ++ [])).vars [] := by
    intro sp
    rw [hvars, hv0]
    exact rfl
  refine ⟨ds, [], before, [], before, [], hW0, hR _ _ _, hA' _ (fun x hx => by simpa using hlt x hx), hV' _, hb.frame _, fun _ => ⟨ok_one hrt rfl (okWide_bool_mk htb _), _,_, ([] ++ before) ++ [], ⟨[] ++ before, [], trodAll_append (hA' _ fun _ _ => rfl) (hR _ _ _), hV' _, rfl, ?_, ?_⟩, ?_⟩⟩
  · intro b off hp
    simp only [List.nil_append, List.append_nil] at hp
    rw [hb.frozen (hlt _ hp)]
    exact hz b off hp
  · intro ha
    simpa using hnd ha
  · intro x hx _
    simpa using hx
end
end Go.Er


/-
  Further arguments opened: a key, a row of whole numbers.
-/
namespace Go.Er
open Go Go.ChangeShapes Go.WideShapes Go.RowKit Go.Deep
section
variable {H : Type} {enc : TypeId × Value → H} {P : Program} {w : World} {base : Nat} {spare : Nat → Bool} {held : Bool} {t e : TypeId}

/-- a part that is a slice of whole numbers of 64 bits -/
theorem u64s_of {fuel : Nat} {cs : List Value} {x : DataW H × List MemPlace} (ht : P.underlying t = some (.slice e)) (he : P.underlying e = some (.int .u64)) (hc : P.cellsOf e = 1) (h : DataW.trod enc P w base (fun _ => true) held fuel t cs = some x) :
    ∃ a cap ns, cs = [.slice a (ns : List Int).length cap] ∧ ns.length ≤ cap ∧ cap ≤ maxLen ∧ URow w a ns ∧ U64 ns := by
  rcases open_ints ht he hc h with ⟨h0, _⟩ | ⟨a, len, cap, zs, h0, hb, hl, hm, hz, _, hcell, hw⟩
  · exact ⟨none, 0, [], h0, Nat.le_refl _, by decide, fun h => absurd h (Nat.lt_irrefl _), fun _ h => nomatch h⟩
  · simp only [if_true] at hz
    have hlen : (zs.take len).length = len := by rw [List.length_take]; omega
    refine ⟨some a, cap, zs.take len, by rw [hlen]; exact h0, by rw [hlen]; exact hl, hm, ?_, ?_⟩
    · intro h1
      rw [hlen] at h1
      have hc0 := hcell 0 (by omega)
      simp only [Addr.add, if_true] at hc0
      have ha := spot_none hc0
      obtain ⟨pre, post, T, fz, hb1, hp⟩ := row_of_cells (w := w) (b := a.block) (off := a.off) (vs := uC (zs.take len)) (by rw [uC_length, hlen]; omega) (by
        intro j hj
        rw [uC_length, hlen] at hj
        have h2 := hcell j (by omega)
        rw [ha, addr_add] at h2
        rw [h2]
        simp [uC, List.getD_eq_getElem?_getD, hj, List.getElem?_eq_getElem (show j < zs.length by omega)])
      exact ⟨a.block, a.off, pre, post, T, fz, congrArg some ha, hb1, hp⟩
    · intro n hn
      have h1 := hw n (List.mem_of_mem_take hn)
      simp only [Lit.wf, Bool.and_eq_true, decide_eq_true_eq] at h1
      have a1 : (0 : Int) ≤ n := by simpa [IntKind.min, IntKind.signed, IntKind.bits] using h1.1
      have a2 : n ≤ 18446744073709551615 := by simpa [IntKind.max, IntKind.signed, IntKind.bits] using h1.2
      exact ⟨a1, by omega⟩
/-- an argument that is a slice of whole numbers of 64 bits -/
theorem open_u64s {r : Reach} {b0 : Nat} {v : Value} {d : DataW H} {ps : List MemPlace} (ht : P.underlying t = some (.slice e)) (he : P.underlying e = some (.int .u64)) (hc : P.cellsOf e = 1) (hval : Value.okWide P w r b0 t v) (h : DataW.Trod enc P w base (fun _ => true) held t v d ps) :
    ∃ a cap ns, v = .slice a (ns : List Int).length cap ∧ ns.length ≤ cap ∧ cap ≤ maxLen ∧ URow w a ns ∧ U64 ns := by
  obtain ⟨fuel, hf⟩ := h
  obtain ⟨a, cap, ns, h1, h2⟩ := u64s_of ht he hc hf
  rw [okWide_slice1 ht hval, List.cons.injEq] at h1
  exact ⟨a, cap, ns, h1.1, h2⟩
end
theorem u64_rng {n : Int} (h : (Lit.int .u64 n).wf = true) : 0 ≤ n ∧ n < 18446744073709551616 := by
  simp only [Lit.wf, Bool.and_eq_true, decide_eq_true_eq] at h
  have a1 : (0 : Int) ≤ n := by simpa [IntKind.min, IntKind.signed, IntKind.bits] using h.1
  have a2 : n ≤ 18446744073709551615 := by simpa [IntKind.max, IntKind.signed, IntKind.bits] using h.2
  omega
end Go.Er


/-
  Further arguments opened: rows of structs, of bytes.
-/
namespace Go.Er
open Go Go.ChangeShapes Go.WideShapes Go.RowKit Go.Deep
section
variable {H : Type} {enc : TypeId × Value → H} {P : Program} {w : World} {base : Nat} {held : Bool} {fuel : Nat} {cs : List Value} {x : DataW H × List MemPlace} {t e : TypeId}
/-- bytes that are a part of something -/
theorem trod_bytesS (ht : P.underlying t = some (.slice e)) (he : P.underlying e = some (.int .u8)) (hc : P.cellsOf e = 1) (h : DataW.trod enc P w base (fun _ => true) held fuel t cs = some x) :
    ∃ y : Bd, cs = [bdV y] ∧ y.b.length ≤ y.c ∧ y.c ≤ maxLen ∧ BRow w y.a y.b := by
  rcases open_ints ht he hc h with ⟨h0, _⟩ | ⟨a, len, cap, zs, h0, hb, hl, hm, hz, _, hcell, hw⟩
  · exact ⟨⟨none, [], 0⟩, h0, Nat.le_refl _, by show 0 ≤ maxLen; exact Nat.zero_le _, BRow.nil⟩
  · simp only [if_true] at hz
    obtain ⟨U, hU⟩ := choose_lt (α := UInt8) (p := fun i u => zs.getD i 0 = (u.toNat : Int)) (n := zs.length) (fun i hi => by
      refine u8_of (hw _ ?_)
      simp [List.getD_eq_getElem?_getD, hi])
    have hlen : ((List.range len).map U).length = len := by simp
    refine ⟨⟨some a, (List.range len).map U, cap⟩, by unfold bdV; rw [hlen]; exact h0, by show _ ≤ cap; rw [hlen]; exact hl, hm, ?_⟩
    intro h1
    have h1 : 0 < ((List.range len).map U).length := h1
    rw [hlen] at h1
    have hc0 := hcell 0 (by omega)
    simp only [Addr.add, if_true] at hc0
    have ha := spot_none hc0
    obtain ⟨pre, post, T, fz, hb1, hp⟩ := row_of_cells (w := w) (b := a.block) (off := a.off) (vs := bC ((List.range len).map U)) (by rw [bC_length, hlen]; omega) (by
      intro j hj
      rw [bC_length, hlen] at hj
      have h2 := hcell j (by omega)
      rw [ha, addr_add, hU j (by omega)] at h2
      rw [h2]
      simp [bC, hj])
    exact ⟨a.block, a.off, pre, post, T, fz, congrArg some ha, hb1, hp⟩
/-- a part that is a slice of elements, each of which is opened -/
theorem rows_of {α : Type} [Inhabited α] {f : α → List Value} {sz : Nat} (hE : Elem f sz) (h0 : 0 < sz) (Pd : α → Prop) (ht : P.underlying t = some (.slice e)) (hc : P.cellsOf e = sz)
    (hel : ∀ fuel cs x, DataW.trod enc P w base (fun _ => true) held fuel e cs = some x → ∃ y, cs = f y ∧ Pd y) (h : DataW.trod enc P w base (fun _ => true) held fuel t cs = some x) :
    ∃ a cap ys, cs = [.slice a (ys : List α).length cap] ∧ ys.length ≤ cap ∧ cap ≤ maxLen ∧ RRow f w a ys ∧ ∀ y ∈ ys, Pd y := by
  rcases open_slice ht h with ⟨h1, _⟩ | ⟨a, len, cap, m, n, D, Pl, h1, hb, hl, hm, hmm, _, hx⟩
  · exact ⟨none, 0, [], h1, Nat.le_refl _, Nat.zero_le _, fun h => absurd h (Nat.lt_irrefl _), fun y hy => nomatch hy⟩
  · simp only [if_true] at hmm
    subst hmm
    rw [hc] at hx
    obtain ⟨X, hX⟩ := choose_lt (α := α) (p := fun i y => w.cells? base (a.add (i * sz)) sz = some (f y) ∧ Pd y) (fun i hi => by
      obtain ⟨cs', g1, g2⟩ := hx i hi
      obtain ⟨y, rfl, hy⟩ := hel _ _ _ g2
      exact ⟨y, g1, hy⟩)
    have hlen : ((List.range len).map X).length = len := by simp
    have hget : ∀ i, i < len → ((List.range len).map X)[i]? = some (X i) := fun i hi => by simp [hi]
    refine ⟨some a, m, (List.range len).map X, by rw [hlen]; exact h1, by rw [hlen]; exact hl, hm, ?_, ?_⟩
    · intro hp0
      rw [hlen] at hp0
      have hcell : ∀ i j, i < len → j < sz → w.cell? (a.add (i * sz + j)) = (f (X i))[j]? := by
        intro i j hi hj
        have g1 := (hX i (by omega)).1
        obtain ⟨_,_, g3⟩ := World.cells?_some g1
        have := g3 j hj
        rwa [add_add] at this
      have ha : a = ⟨a.block, a.off, none⟩ := by
        have g1 := hcell 0 0 hp0 h0
        simp only [Nat.zero_mul, Nat.add_zero, Addr.add, if_true] at g1
        have hl0 : 0 < (f (X 0)).length := by rw [hE.len]; exact h0
        rw [List.getElem?_eq_getElem hl0] at g1
        exact spot_none g1
      obtain ⟨pre, post, T, fz, hb1, hp⟩ := row_of_cells (w := w) (b := a.block) (off := a.off) (vs := rowC f ((List.range len).map X)) (by rw [rowC_length hE, hlen]; exact Nat.mul_pos hp0 h0) (by
        intro j hj
        rw [rowC_length hE, hlen] at hj
        have hq : j / sz < len := Nat.div_lt_of_lt_mul (by rwa [Nat.mul_comm] at hj)
        have hr : j % sz < sz := Nat.mod_lt _ h0
        have g1 := hcell (j / sz) (j % sz) hq hr
        have e1 : j / sz * sz + j % sz = j := by rw [Nat.mul_comm]; exact Nat.div_add_mod j sz
        rw [e1, ha, addr_add] at g1
        rw [g1]
        have g2 := row_get hE [] (xs := (List.range len).map X) [] (off := 0) (o := j) rfl (hget _ hq) hr (by rw [Nat.zero_add]; exact e1.symm)
        simp only [List.nil_append, List.append_nil] at g2
        rw [g2])
      exact ⟨a.block, a.off, pre, post, T, fz, congrArg some ha, hb1, hp⟩
    · intro y hy
      obtain ⟨i, hi, rfl⟩ := List.mem_map.1 hy
      exact (hX i (by have := List.mem_range.1 hi; omega)).2
instance : Inhabited DoL := ⟨doZ⟩
end
end Go.Er

