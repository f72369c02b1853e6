/-
  The laws' two ends: arguments are opened into data, and what a quiet call leaves is told.
-/
import Derived.Test.YtbjalofmamoffaaD7
import Derived.Test.YtbjalofmamoffaaD9
import Derived.WalkKit
import Derived.ProofKit
import Derived.OpenShut
import Derived.Carry
import Derived.Deep.Slices
import Derived.Deep.DeepHandedRow
import Derived.Lib.LaidTab
namespace Go.Er
open Go Go.ChangeShapes Go.WideShapes Go.RowKit Go.Deep

instance : Inhabited Held := ⟨Held.zero⟩
theorem one_td {α : Type} (l : List α) (i : Nat) (d : α) (h : i < l.length) : (l.drop i).take 1 = [l.getD i d] := by
  rw [List.drop_eq_getElem_cons h, List.take_succ_cons, List.take_zero, List.getD_eq_getElem?_getD, List.getElem?_eq_getElem h]; rfl

/-! ### A row out of its cells -/
theorem row_of_cells {w : World} {b off : Nat} {vs : List Value} (h0 : 0 < vs.length) (h : ∀ j, j < vs.length → w.cell? ⟨b, off + j, none⟩ = vs[j]?) :
    ∃ pre post T fz, w.heap[b]? = some (.cells (pre ++ vs ++ post).toArray T fz) ∧ pre.length = off := by
  have hx := h 0 h0
  rw [List.getElem?_eq_getElem h0] at hx
  simp only [World.cell?] at hx
  cases hb : w.heap[b]? with
  | none => rw [hb] at hx; simp at hx
  | some o =>
    cases o with
    | cells c T fz =>
      have hc : ∀ j, j < vs.length → c[off + j]? = vs[j]? := by
        intro j hj
        have := h j hj
        simpa [World.cell?, hb] using this
      have hsz : off + vs.length ≤ c.size := by
        have := hc (vs.length - 1) (by omega)
        rw [List.getElem?_eq_getElem (by omega)] at this
        have := (Array.getElem?_eq_some_iff.1 this).1
        omega
      refine ⟨c.toList.take off, c.toList.drop (off + vs.length), T, fz, ?_, by simp; omega⟩
      congr 2
      rw [← Array.toList_inj]
      apply List.ext_getElem?
      intro i
      rw [List.append_assoc]
      by_cases h1 : i < off
      · rw [List.getElem?_append_left (by simp; omega), List.getElem?_take, if_pos h1]
      · rw [List.getElem?_append_right (by simp; omega)]
        have hl : (c.toList.take off).length = off := by simp; omega
        rw [hl]
        by_cases h2 : i - off < vs.length
        · rw [List.getElem?_append_left h2, ← hc _ h2]
          have : off + (i - off) = i := by omega
          rw [this]; simp
        · rw [List.getElem?_append_right (by omega), List.getElem?_drop]
          congr 1
          omega
    | _ => rw [hb] at hx; simp at hx

/-! ### Down -/
section
variable {H : Type} {enc : TypeId × Value → H} {P : Program} {w : World} {base : Nat} {spare : Nat → Bool} {held : Bool} {fuel : Nat} {cs : List Value} {x : DataW H × List MemPlace} {t e : TypeId}

theorem u8_of {n : Int} (h : (Lit.int .u8 n).wf = true) : ∃ u : UInt8, n = (u.toNat : Int) := by
  simp only [Lit.wf, Bool.and_eq_true, decide_eq_true_eq] at h
  have h1 : (0 : Int) ≤ n := by simpa [IntKind.min, IntKind.signed] using h.1
  have h2 : n ≤ 255 := by simpa [IntKind.max, IntKind.signed, IntKind.bits] using h.2
  exact ⟨UInt8.ofNat n.toNat, by rw [UInt8.toNat_ofNat']; omega⟩

/-- bytes, cell by cell -/
theorem bytes_of {n : Nat} {vs : List Value} (hn : vs.length = n) (h : ∀ i, i < n → ∃ u : UInt8, vs[i]? = some (.int .u8 (u.toNat : Int))) : ∃ k : By n, vs = kC k := by
  obtain ⟨f, hf⟩ := choose_lt (α := UInt8) (p := fun i u => vs[i]? = some (.int .u8 (u.toNat : Int))) h
  obtain ⟨k, hk⟩ : ∃ k : By n, k.1 = (List.range n).map f := ⟨⟨(List.range n).map f, by simp⟩, rfl⟩
  refine ⟨k, ?_⟩
  have e : kC k = bC ((List.range n).map f) := by unfold kC; rw [hk]
  rw [e]
  apply List.ext_getElem?
  intro i
  by_cases hi : i < n
  · rw [hf i hi]; simp [bC, hi]
  · rw [List.getElem?_eq_none (by omega), List.getElem?_eq_none (by rw [bC_length]; simp; omega)]

theorem trod_bytes {n : Nat} (ht : P.underlying t = some (.array n e)) (he : P.underlying e = some (.int .u8)) (hc : P.cellsOf e = 1) (hct : P.cellsOf t = n) (h : DataW.trod enc P w base spare held fuel t cs = some x) : ∃ k : By n, cs = kC k := by
  obtain ⟨xs, m, _, _, hl, hxl, hx⟩ := DataW.trod_array ht h
  rw [hct] at hl
  refine bytes_of hl fun i hi => ?_
  have h1 := hx i hi
  rw [hc, Nat.mul_one, one_td cs i undef (by omega), List.getElem?_eq_getElem (by omega)] at h1
  obtain ⟨z, hz, _, hw⟩ := DataW.trod_int he h1
  obtain ⟨u, rfl⟩ := u8_of hw
  refine ⟨u, ?_⟩
  simp only [List.cons.injEq, and_true] at hz
  rw [← hz]
  simp [List.getD_eq_getElem?_getD, List.getElem?_eq_getElem (show i < cs.length by omega)]

/-- a struct of a depth, a number, and 32 bytes, as it is read -/
structure NodeD (P : Program) (T : TypeId) : Prop where
  cells : P.cellsOf T = 34
  fs : ∃ (fs : Array Field) (f0 f1 f2 : Field) (e : TypeId), P.underlying T = some (.struct fs) ∧ fs = #[f0, f1, f2] ∧ f0.offset = 0 ∧ f1.offset = 1 ∧ f2.offset = 2 ∧ P.cellsOf f0.type = 1 ∧ P.cellsOf f1.type = 1 ∧ P.cellsOf f2.type = 32 ∧
    P.underlying f0.type = some (.int .i64) ∧ P.underlying f1.type = some (.int .u64) ∧ P.underlying f2.type = some (.array 32 e) ∧ P.underlying e = some (.int .u8) ∧ P.cellsOf e = 1

theorem trod_held (hn : NodeD P t) (h : DataW.trod enc P w base spare held fuel t cs = some x) : ∃ y : Held, cs = hC y ∧ InR y := by
  obtain ⟨fs, f0, f1, f2, e, hu, rfl, o0, o1, o2, c0, c1, c2, u0, u1, u2, ue, ce⟩ := hn.fs
  obtain ⟨xs, n, _, _, hl, hxl, hx⟩ := DataW.trod_struct hu h
  rw [hn.cells] at hl
  have hxl : xs.length = 3 := hxl
  have g0 := hx 0 f0 rfl
  have g1 := hx 1 f1 rfl
  have g2 := hx 2 f2 rfl
  rw [List.getElem?_eq_getElem (by omega)] at g0 g1 g2
  rw [o0, c0, one_td cs 0 undef (by omega)] at g0
  rw [o1, c1, one_td cs 1 undef (by omega)] at g1
  rw [o2, c2] at g2
  obtain ⟨d, hd, _, wd⟩ := DataW.trod_int u0 g0
  obtain ⟨a, ha, _, wa⟩ := DataW.trod_int u1 g1
  obtain ⟨k, hk⟩ := trod_bytes u2 ue ce c2 g2
  refine ⟨⟨d, a, k⟩, ?_, ?_⟩
  · match cs, hl with
    | p :: q :: r, hl =>
      have h0 : p = .int .i64 d := by simpa using hd
      have h1 : q = .int .u64 a := by simpa using ha
      have h2 : r = kC k := by
        rw [← hk]
        show r = r.take 32
        rw [List.take_of_length_le (by simp only [List.length_cons] at hl; omega)]
      rw [h0, h1, h2]; rfl
  · simp only [Lit.wf, Bool.and_eq_true, decide_eq_true_eq] at wd wa
    have d1 : (-9223372036854775808 : Int) ≤ d := by simpa [IntKind.min, IntKind.signed, IntKind.bits] using wd.1
    have d2 : d ≤ 9223372036854775807 := by simpa [IntKind.max, IntKind.signed, IntKind.bits] using wd.2
    have a1 : (0 : Int) ≤ a := by simpa [IntKind.min, IntKind.signed, IntKind.bits] using wa.1
    have a2 : a ≤ 18446744073709551615 := by simpa [IntKind.max, IntKind.signed, IntKind.bits] using wa.2
    exact ⟨d1, d2, a1, by show a < _; omega⟩

theorem okWide_slice1 {r : Reach} {v : Value} (ht : P.underlying t = some (.slice e)) (h : Value.okWide P w r base t v) : v.cells.toList = [v] := by
  obtain ⟨a, len, cap, rfl⟩ := okWide_slice ht h
  rfl

theorem spot_none {a : Addr} {v : Value} (h : w.cell? a = some v) : a = ⟨a.block, a.off, none⟩ := by
  obtain ⟨b, o, s⟩ := a
  have := World.cell?_spot h
  simp at this
  subst this; rfl

/-- an argument that is a slice of nodes -/
theorem open_held {r : Reach} {b0 : Nat} {v : Value} {d : DataW H} {ps : List MemPlace} (ht : P.underlying t = some (.slice e)) (hn : NodeD P e) (hval : Value.okWide P w r b0 t v) (h : DataW.Trod enc P w base (fun _ => true) held t v d ps) :
    ∃ a cap xs, v = .slice a (xs : List Held).length cap ∧ xs.length ≤ cap ∧ cap ≤ maxLen ∧ HRow w a xs ∧ ∀ i, i < xs.length → InR (nd xs i) := by
  obtain ⟨fuel, hf⟩ := h
  rcases open_slice ht hf with ⟨h0, _⟩ | ⟨a, len, cap, m, n, D, Pl, h0, hb, hl, hm, hmm, _, hx⟩
  · have hv := okWide_slice1 ht hval
    rw [hv, List.cons.injEq] at h0
    exact ⟨none, 0, [], h0.1, Nat.le_refl _, by decide, fun h => absurd h (Nat.lt_irrefl _), fun i hi => absurd hi (Nat.not_lt_zero _)⟩
  · have hv := okWide_slice1 ht hval
    rw [hv, List.cons.injEq] at h0
    simp only [if_true] at hmm
    subst hmm
    rw [hn.cells] at hx
    obtain ⟨X, hX⟩ := choose_lt (α := Held) (p := fun i y => w.cells? base (a.add (i * 34)) 34 = some (hC y) ∧ InR y) (fun i hi => by
      obtain ⟨cs', h1, h2⟩ := hx i hi
      obtain ⟨y, rfl, hy⟩ := trod_held hn h2
      exact ⟨y, h1, hy⟩) 
    have hlen : ((List.range len).map X).length = len := by simp
    have hnd : ∀ i, i < len → nd ((List.range len).map X) i = X i := fun i hi => by simp [nd, List.getD_eq_getElem?_getD, hi]
    refine ⟨some a, m, (List.range len).map X, by rw [hlen]; exact h0.1, by rw [hlen]; exact hl, hm, ?_, ?_⟩
    · intro h0
      rw [hlen] at h0
      have hcell : ∀ i j, i < len → j < 34 → w.cell? (a.add (i * 34 + j)) = (hC (X i))[j]? := by
        intro i j hi hj
        have h1 := (hX i (by omega)).1
        obtain ⟨_, _, h3⟩ := World.cells?_some h1
        have := h3 j hj
        rwa [add_add] at this
      have ha : a = ⟨a.block, a.off, none⟩ := by
        have h1 := hcell 0 0 h0 (by omega)
        simp only [Nat.zero_mul, Nat.add_zero, Addr.add, if_true] at h1
        exact spot_none (v := .int .i64 (X 0).depth) h1
      obtain ⟨pre, post, T, fz, hb1, hp⟩ := row_of_cells (w := w) (b := a.block) (off := a.off) (vs := hsC ((List.range len).map X)) (by rw [hsC_length, hlen]; omega) (by
        intro j hj
        rw [hsC_length, hlen] at hj
        have h1 := hcell (j / 34) (j % 34) (by omega) (Nat.mod_lt _ (by omega))
        have e1 : j / 34 * 34 + j % 34 = j := by omega
        rw [e1, ha, addr_add] at h1
        rw [h1]
        have h2 := hs_get [] ((List.range len).map X) [] 0 (j / 34) (j % 34) rfl (by rw [hlen]; omega) (Nat.mod_lt _ (by omega))
        have e2 : 0 + j / 34 * 34 + j % 34 = j := by omega
        rw [e2, nd_eq (by rw [hlen]; omega), hnd _ (by omega)] at h2
        simp only [List.nil_append, List.append_nil] at h2
        rw [h2])
      exact ⟨a.block, a.off, pre, post, T, fz, congrArg some ha, hb1, hp⟩
    · intro i hi
      rw [hlen] at hi
      rw [hnd i hi]
      exact (hX i (by omega)).2

/-- an argument that is a slice of bytes -/
theorem open_bytesArg {r : Reach} {b0 : Nat} {v : Value} {d : DataW H} {ps : List MemPlace} (ht : P.underlying t = some (.slice e)) (he : P.underlying e = some (.int .u8)) (hc : P.cellsOf e = 1) (hval : Value.okWide P w r b0 t v) (h : DataW.Trod enc P w base (fun _ => true) held t v d ps) :
    ∃ a cap bs, v = .slice a (bs : List UInt8).length cap ∧ bs.length ≤ cap ∧ cap ≤ maxLen ∧ BRow w a bs := by
  obtain ⟨fuel, hf⟩ := h
  rcases open_ints ht he hc hf with ⟨h0, _⟩ | ⟨a, len, cap, zs, h0, hb, hl, hm, hz, _, hcell, hw⟩
  · have hv := okWide_slice1 ht hval
    rw [hv, List.cons.injEq] at h0
    exact ⟨none, 0, [], h0.1, Nat.le_refl _, by decide, BRow.nil⟩
  · have hv := okWide_slice1 ht hval
    rw [hv, List.cons.injEq] at h0
    simp only [if_true] at hz
    obtain ⟨U, hU⟩ := choose_lt (α := UInt8) (p := fun i u => zs.getD i 0 = (u.toNat : Int)) (n := zs.length) (fun i hi => by
      refine u8_of (hw _ ?_)
      simp [List.getD_eq_getElem?_getD, hi])
    have hlen : ((List.range len).map U).length = len := by simp
    refine ⟨some a, cap, (List.range len).map U, by rw [hlen]; exact h0.1, by rw [hlen]; exact hl, hm, ?_⟩
    intro h1
    rw [hlen] at h1
    have hc0 := hcell 0 (by omega)
    simp only [Addr.add, if_true] at hc0
    have ha := spot_none hc0
    obtain ⟨pre, post, T, fz, hb1, hp⟩ := row_of_cells (w := w) (b := a.block) (off := a.off) (vs := bC ((List.range len).map U)) (by rw [bC_length, hlen]; omega) (by
      intro j hj
      rw [bC_length, hlen] at hj
      have h2 := hcell j (by omega)
      rw [ha, addr_add, hU j (by omega)] at h2
      rw [h2]
      simp [bC, hj])
    exact ⟨a.block, a.off, pre, post, T, fz, congrArg some ha, hb1, hp⟩

/-! ### Up -/
theorem trodAll_stay (hl : laidOutB P = true) {W W' : World} {sp' : Nat → Bool} (hbel : Below W.heap.size W W') : ∀ {ts : List TypeId} {vs : List Value} {ds : List (DataW H)} {ps : List MemPlace}, (ts.all fun t => P.readableRec t && decide (t < P.types.size)) = true →
    DataW.TrodAll enc P W 0 (fun _ => true) true ts vs ds ps → (∀ p ∈ ps, p.block < W.heap.size) → (∀ p ∈ ps, sp' p.block = true) → DataW.TrodAll enc P W' 0 sp' true ts vs ds ps
  | [], vs, ds, ps, _, h, _, _ => by obtain ⟨rfl, rfl, rfl⟩ := trodAll_nil h; exact trodAll_mk0
  | t :: ts, vs, ds, ps, hr, h, hlt, hs => by
    obtain ⟨v, vs', d, ds', p, q, rfl, rfl, rfl, h1, h2⟩ := trodAll_cons h
    simp only [List.all_cons, Bool.and_eq_true, decide_eq_true_eq] at hr
    exact trodAll_cons_mk (WideElems.Trod_stays hl hr.1.1 hr.1.2 h1 (fun x hx => hbel.same (hlt x (List.mem_append_left _ hx))) (fun x hx => hs x (List.mem_append_left _ hx)))
      (trodAll_stay hl hbel hr.2 h2 (fun x hx => hlt x (List.mem_append_right _ hx)) (fun x hx => hs x (List.mem_append_right _ hx)))

/-- behind a quiet call that tells true -/
theorem law_post {f : Func} {s : ChangeSpec} {apart fresh handsOn again : Bool} {W W' : World} {args : Array Value} {ds gs : List (DataW H)} {before : List MemPlace} {tb : TypeId}
    (hl : laidOutB P = true) (hpr : (f.params.toList.all fun t => P.readableRec t && decide (t < P.types.size)) = true) (hrt : f.resultTypes = #[tb]) (htb : P.underlying tb = some .bool) (hv0 : s.vars = [])
    (hW : DataW.Whole enc P f.params.toList s.vars apart W args.toList ds gs before) (hres : (s.fn H (ds ++ gs)).results = [.lit (.bool true)]) (hargs : (s.fn H (ds ++ gs)).args = ds) (hvars : (s.fn H (ds ++ gs)).vars = [])
    (hb : Below W.heap.size W W') : s.post enc P f apart fresh handsOn again W args (.bool true) W' := by
  have hlt : ∀ p ∈ before, p.block < W.heap.size := hW.lt
  have hW0 := hW
  obtain ⟨p, q, hA, hV, he, hz, hnd⟩ := hW
  rw [hv0] at hV
  obtain ⟨rfl, rfl⟩ := trodVars_none hV
  rw [List.append_nil] at he
  subst he
  have hR : ∀ (b : Nat) (sp : Nat → Bool) (hd : Bool), DataW.TrodAll enc P W' b sp hd f.resultTypes.toList ((Value.bool true).resultList f.resultTypes.size) (s.fn H (ds ++ [])).results [] := by
    intro b sp hd
    rw [hres, hrt]
    exact trodAll_mk1 (shut_bool htb _)
  have hA' : ∀ sp : Nat → Bool, (∀ x ∈ before, sp x.block = true) → DataW.TrodAll enc P W' 0 sp true f.params.toList args.toList (s.fn H (ds ++ [])).args before := by
    intro sp hsp
    rw [hargs]
    exact trodAll_stay hl hb hpr hA hlt hsp
  have hV' : ∀ sp : Nat → Bool, DataW.TrodVars enc P W' sp s.vars (s.fn H (ds ++ [])).vars [] := by
    intro sp
    rw [hvars, hv0]
    exact rfl
  refine ⟨ds, [], before, [], before, [], hW0, hR _ _ _, hA' _ (fun x hx => by simpa using hlt x hx), hV' _, hb.frame _, fun _ => ⟨ok_one hrt rfl (okWide_bool_mk htb _), _, _, ([] ++ before) ++ [], ⟨[] ++ before, [], trodAll_append (hA' _ fun _ _ => rfl) (hR _ _ _), hV' _, rfl, ?_, ?_⟩, ?_⟩⟩
  · intro b off hp
    simp only [List.nil_append, List.append_nil] at hp
    rw [hb.frozen (hlt _ hp)]
    exact hz b off hp
  · intro ha
    simpa using hnd ha
  · intro x hx _
    simpa using hx
end
end Go.Er
