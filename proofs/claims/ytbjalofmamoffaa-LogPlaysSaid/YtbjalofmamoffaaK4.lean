/-
  append, on a row that is one's own.
-/
import Derived.Test.YtbjalofmamoffaaK3
namespace Go.Er
open Go

section
variable {P : Program} {w0 w : World} {X : List Nat} {L : List (Nat × Obj)} {l : Fr} {d : Option Tmp} {ty : TypeId} {pos : String} {after : Array Edge} {g : Option (Nat × Bool)}
  {T T2 E : TypeId} {D2 : TypeDesc} {b : Nat} {xs sp vs : List Value} {z x : Value} {ti : TypeInfo} {n m cap sz : Nat} {args : List Operand}

/-- what is appended -/
structure Src (P : Program) (w : World) (sz : Nat) (x : Value) (m : Nat) (vs : List Value) : Prop where
  len : (Builtin.lenOf x).run P w = .ok m w
  cells : ∀ k, (Builtin.firstCells sz m x).run P { w with drawn := k } = .ok vs.toArray { w with drawn := k }
  size : vs.length = m * sz
  one : ∀ v ∈ vs, v.oneCell' = true

theorem Src.slice {b off len c : Nat} {cs : List Value} {F : TypeId} {fz : Nat × Nat} (hb : w.heap[b]? = some (.cells cs.toArray F fz)) (hc : (cs.drop off).take (len * sz) = vs) (hn : vs.length = len * sz) (h1 : ∀ v ∈ vs, v.oneCell' = true) :
    Src P w sz (.slice (some ⟨b, off, none⟩) len c) len vs :=
  ⟨by simp [Builtin.lenOf], fun k => by simp only [Builtin.firstCells]; exact run_loadRow (w := { w with drawn := k }) hb hc hn, hn, h1⟩
theorem Src.nil {c : Nat} : Src P w sz (.slice none 0 c) 0 [] :=
  ⟨by simp [Builtin.lenOf], fun k => by simp [Builtin.firstCells], by simp, fun _ h => (nomatch h)⟩

theorem zeroCells_size (z : Array Value) (n : Nat) : (Builtin.zeroCells z n).size = n * z.size := by simp [Builtin.zeroCells]

theorem erase_perm {α : Type} : ∀ (k : Nat) (L : List α) {a b : α}, L[k]? = some a → (b :: L.eraseIdx k).Perm (L.set k b)
  | _, [], _, _, h => by simp at h
  | 0, _ :: _, _, _, _ => .refl _
  | k + 1, c :: L, a, b, h => by
    have := erase_perm k L (a := a) (b := b) (by simpa using h)
    exact (List.Perm.swap c b _).trans (.cons c this)

theorem m_append_own2 (H : St w0 X w L) (k : Nat) (hu : Und P T (.slice E)) (hu2 : Und P T2 D2) (hD : ∀ q, D2 ≠ .int q) (hs : Size P E sz) (hz : Zero P E z) (hzs : z.cells.size = sz) (hi : ∀ w, (typeInfo E).run P w = .ok ti w)
    (hk : L[k]? = some (b, .cells (xs ++ sp).toArray E (0, 0))) (hn : xs.length = n * sz) (hcap : cap * sz ≤ (xs ++ sp).length) (hby : 0 < ti.bytes) (hroom : (n + m) * ti.bytes ≤ 140737488355328)
    (ha : Evs l args [.slice (some ⟨b, 0, none⟩) n cap, x]) (hx : Src P w sz x m vs) :
    ∃ v w', (execOp (evl l) ⟨d, .call ⟨.builtin .append, args.toArray, [T, T2].toArray⟩, ty, pos, after, g⟩).run P w = .ok (.value v) w' ∧
      ∃ b' cap' sp', v = .slice (some ⟨b', 0, none⟩) (n + m) cap' ∧ cap' * sz ≤ (xs ++ vs ++ sp').length ∧ n + m ≤ cap' ∧ St w0 X w' ((b', .cells (xs ++ vs ++ sp').toArray E (0, 0)) :: L.eraseIdx k) := by
  have hb := H.at k hk
  have hrun : (execOp (evl l) ⟨d, .call ⟨.builtin .append, args.toArray, [T, T2].toArray⟩, ty, pos, after, g⟩).run P w = ((Builtin.append_ #[T, T2] ty #[.slice (some ⟨b, 0, none⟩) n cap, x]).run P w).andThen fun v w' => .ok (.value v) w' := by
    simp [execOp, resolve, invoke, builtin, ha.map]
  have hl := hx.len
  have hsz := hx.size
  by_cases hfit : n + m ≤ cap
  · -- in place
    have hlen : n * sz + vs.length ≤ (xs ++ sp).length := by
      rw [hsz, ← Nat.add_mul]
      exact Nat.le_trans (Nat.mul_le_mul_right _ hfit) hcap
    have hst := run_storeCells_at (P := P) b (n * sz) E vs 0 (xs ++ sp).toArray w hb (by simpa using hlen) hx.one
    simp only [Nat.add_zero] at hst
    have e : (xs ++ sp).take (n * sz) ++ vs ++ (xs ++ sp).drop (n * sz + vs.length) = xs ++ vs ++ sp.drop vs.length := by
      rw [List.take_append, List.take_of_length_le (by omega), List.drop_append, List.drop_of_length_le (by omega)]
      have h1 : n * sz - xs.length = 0 := by omega
      have h2 : n * sz + vs.length - xs.length = vs.length := by omega
      rw [h1, h2]
      simp
    rw [e] at hst
    refine ⟨.slice (some ⟨b, 0, none⟩) (n + m) cap, w.setRow b (xs ++ vs ++ sp.drop vs.length).toArray, ?_, b, cap, sp.drop vs.length, rfl, ?_, hfit, ?_⟩
    · rw [hrun]
      have hadd : (⟨b, 0, none⟩ : Addr).add (n * sz) = ⟨b, n * sz, none⟩ := by rw [addr_add, Nat.zero_add]
      simp [Builtin.append_, hu w, hu2 w, hs w, hl, hfit, hx.cells w.drawn, hadd, hst]
    · simp only [List.length_append, List.length_drop] at hcap hlen ⊢
      omega
    · exact (H.setRow k _ hk).perm (erase_perm k L hk)
  · -- a new block
    have hgrow := growslice_fits (need := n + m) (old := cap) (bytes := ti.bytes) (by omega) hroom
    have hold : (Builtin.firstCells sz n (.slice (some ⟨b, 0, none⟩) n cap)).run P w = .ok xs.toArray w := by
      simp only [Builtin.firstCells]
      exact run_loadRow hb (by rw [List.drop_zero, List.take_append, List.take_of_length_le (by omega)]; have : n * sz - xs.length = 0 := by omega
                               rw [this]; simp) hn
    let q := Question.appendCap (n + m) cap E
    let nc := q.cut (w.tape w.drawn q)
    have hnc : n + m ≤ nc := Nat.le_add_right _ _
    let w1 : World := { w with drawn := w.drawn + 1 }
    let rest := (Builtin.zeroCells z.cells (nc - (n + m))).toList
    have H1 : St w0 X w1 L := H.drew (Nat.le_succ _)
    have H2 := H1.alloc (.cells (xs ++ vs ++ rest).toArray E (0, 0))
    refine ⟨.slice (some ⟨w.heap.size, 0, none⟩) (n + m) nc, { w1 with heap := w1.heap.push (.cells (xs ++ vs ++ rest).toArray E (0, 0)) }, ?_, w.heap.size, nc, rest, rfl, ?_, hnc, ?_⟩
    · rw [hrun]
      have hold1 : (Builtin.firstCells sz n (.slice (some ⟨b, 0, none⟩) n cap)).run P w1 = .ok xs.toArray w1 := by
        simp only [Builtin.firstCells]
        exact run_loadRow (H1.at k hk) (by rw [List.drop_zero, List.take_append, List.take_of_length_le (by omega)]; have : n * sz - xs.length = 0 := by omega
                                           rw [this]; simp) hn
      have hnew1 : (Builtin.firstCells sz m x).run P w1 = .ok vs.toArray w1 := hx.cells _
      have hch : (choose (.appendCap (n + m) cap E)).run P w = .ok nc w1 := by rw [run_choose, if_neg (by simp [Question.forced])]
      have hg2 : ¬ Builtin.nextslicecap (n + m) cap * ti.bytes > 2 ^ 48 := by
        have : (2 : Nat) ^ 48 = 281474976710656 := by decide
        omega
      have hz1 := hz w1
      simp only [Builtin.append_, List.getElem?_toArray, List.getElem?_cons_zero, List.getElem?_cons_succ, Sem.run_bind, hu w, hu2 w, hs w, hi w, Result.andThen_ok, Sem.run_pure, hl, if_false, Bool.false_eq_true, Sem.run_ite, if_neg hfit]
      have c1 : ¬ (((n + m : Nat) : Int) > IntKind.i64.max ∧ (False ∨ ti.bytes = 0)) := by
        rintro ⟨_, h | h⟩
        · exact h
        · omega
      rw [if_neg c1]
      simp only [Result.andThen_ok, if_neg hg2, hch, hi w1, run_askRoom, hold1, Bool.not_false, if_true, hnew1, hz1, newRow, Sem.run_bind, run_newObj, Sem.run_pure]
      simp [rest, w1]
      congr 2
      rw [← Array.toList_inj]
      simp
    · simp only [List.length_append, rest, Array.length_toList, zeroCells_size, hzs, hn, hsz]
      rw [← Nat.add_mul, ← Nat.add_mul]
      exact Nat.mul_le_mul_right _ (by omega)
    · exact H2.sub (.cons_cons _ (List.eraseIdx_sublist L k))

/-- onto a nil slice -/
theorem m_append_nil2 (H : St w0 X w L) (hu : Und P T (.slice E)) (hu2 : Und P T2 D2) (hD : ∀ q, D2 ≠ .int q) (hs : Size P E sz) (hz : Zero P E z) (hzs : z.cells.size = sz) (hi : ∀ w, (typeInfo E).run P w = .ok ti w)
    (hby : 0 < ti.bytes) (hm : 0 < m) (hroom : m * ti.bytes ≤ 140737488355328) (ha : Evs l args [.slice none 0 0, x]) (hx : Src P w sz x m vs) :
    ∃ v w', (execOp (evl l) ⟨d, .call ⟨.builtin .append, args.toArray, [T, T2].toArray⟩, ty, pos, after, g⟩).run P w = .ok (.value v) w' ∧
      ∃ b' cap' sp', v = .slice (some ⟨b', 0, none⟩) m cap' ∧ cap' * sz ≤ (vs ++ sp').length ∧ m ≤ cap' ∧ St w0 X w' ((b', .cells (vs ++ sp').toArray E (0, 0)) :: L) := by
  have hrun : (execOp (evl l) ⟨d, .call ⟨.builtin .append, args.toArray, [T, T2].toArray⟩, ty, pos, after, g⟩).run P w = ((Builtin.append_ #[T, T2] ty #[.slice none 0 0, x]).run P w).andThen fun v w' => .ok (.value v) w' := by
    simp [execOp, resolve, invoke, builtin, ha.map]
  have hl := hx.len
  have hsz := hx.size
  have hgrow := growslice_fits (need := 0 + m) (old := 0) (bytes := ti.bytes) (by omega) (by rw [Nat.zero_add]; exact hroom)
  let q := Question.appendCap (0 + m) 0 E
  let nc := q.cut (w.tape w.drawn q)
  have hnc : 0 + m ≤ nc := Nat.le_add_right _ _
  let w1 : World := { w with drawn := w.drawn + 1 }
  let rest := (Builtin.zeroCells z.cells (nc - (0 + m))).toList
  have H1 : St w0 X w1 L := H.drew (Nat.le_succ _)
  have H2 := H1.alloc (.cells (vs ++ rest).toArray E (0, 0))
  refine ⟨.slice (some ⟨w.heap.size, 0, none⟩) m nc, { w1 with heap := w1.heap.push (.cells (vs ++ rest).toArray E (0, 0)) }, ?_, w.heap.size, nc, rest, rfl, ?_, by omega, H2⟩
  · rw [hrun]
    have hold1 : (Builtin.firstCells sz 0 (.slice none 0 0)).run P w1 = .ok #[] w1 := by simp [Builtin.firstCells]
    have hnew1 : (Builtin.firstCells sz m x).run P w1 = .ok vs.toArray w1 := hx.cells _
    have hch : (choose (.appendCap (0 + m) 0 E)).run P w = .ok nc w1 := by rw [run_choose, if_neg (by simp [Question.forced])]
    have hg2 : ¬ Builtin.nextslicecap (0 + m) 0 * ti.bytes > 2 ^ 48 := by
      have : (2 : Nat) ^ 48 = 281474976710656 := by decide
      omega
    have hz1 := hz w1
    have hfit : ¬ 0 + m ≤ 0 := by omega
    simp only [Builtin.append_, List.getElem?_toArray, List.getElem?_cons_zero, List.getElem?_cons_succ, Sem.run_bind, hu w, hu2 w, hs w, hi w, Result.andThen_ok, Sem.run_pure, hl, if_false, Bool.false_eq_true, Sem.run_ite, if_neg hfit]
    have c1 : ¬ (((0 + m : Nat) : Int) > IntKind.i64.max ∧ (False ∨ ti.bytes = 0)) := by
      rintro ⟨_, h | h⟩
      · exact h
      · omega
    rw [if_neg c1]
    simp only [Result.andThen_ok, if_neg hg2, hch, hi w1, run_askRoom, hold1, Bool.not_false, if_true, hnew1, hz1, newRow, Sem.run_bind, run_newObj, Sem.run_pure]
    simp [rest, w1]
    congr 2
    rw [← Array.toList_inj]
    simp
  · simp only [List.length_append, rest, Array.length_toList, zeroCells_size, hzs, hsz]
    rw [← Nat.add_mul]
    exact Nat.mul_le_mul_right _ (by omega)

theorem m_append_own (H : St w0 X w L) (k : Nat) (hu : Und P T (.slice E)) (hu2 : Und P T2 D2) (hD : ∀ q, D2 ≠ .int q) (hs : Size P E sz) (hz : Zero P E z) (hzs : z.cells.size = sz) (hi : ∀ w, (typeInfo E).run P w = .ok ti w)
    (hk : L[k]? = some (b, .cells (xs ++ sp).toArray E (0, 0))) (hn : xs.length = n * sz) (hcap : cap * sz ≤ (xs ++ sp).length) (hby : 0 < ti.bytes) (hroom : (n + m) * ti.bytes ≤ 140737488355328)
    (ha : Evs l args [.slice (some ⟨b, 0, none⟩) n cap, x]) (hx : Src P w sz x m vs) :
    ∃ v w', (execOp (evl l) ⟨d, .call ⟨.builtin .append, args.toArray, [T, T2].toArray⟩, ty, pos, after, g⟩).run P w = .ok (.value v) w' ∧
      ∃ b' cap' sp', v = .slice (some ⟨b', 0, none⟩) (n + m) cap' ∧ cap' * sz ≤ (xs ++ vs ++ sp').length ∧ St w0 X w' ((b', .cells (xs ++ vs ++ sp').toArray E (0, 0)) :: L.eraseIdx k) := by
  obtain ⟨v, w', hr, b', cap', sp', hv, hc, _, H'⟩ := m_append_own2 (d := d) (ty := ty) (pos := pos) (after := after) (g := g) H k hu hu2 hD hs hz hzs hi hk hn hcap hby hroom ha hx
  exact ⟨v, w', hr, b', cap', sp', hv, hc, H'⟩
theorem m_append_nil (H : St w0 X w L) (hu : Und P T (.slice E)) (hu2 : Und P T2 D2) (hD : ∀ q, D2 ≠ .int q) (hs : Size P E sz) (hz : Zero P E z) (hzs : z.cells.size = sz) (hi : ∀ w, (typeInfo E).run P w = .ok ti w)
    (hby : 0 < ti.bytes) (hm : 0 < m) (hroom : m * ti.bytes ≤ 140737488355328) (ha : Evs l args [.slice none 0 0, x]) (hx : Src P w sz x m vs) :
    ∃ v w', (execOp (evl l) ⟨d, .call ⟨.builtin .append, args.toArray, [T, T2].toArray⟩, ty, pos, after, g⟩).run P w = .ok (.value v) w' ∧
      ∃ b' cap' sp', v = .slice (some ⟨b', 0, none⟩) m cap' ∧ cap' * sz ≤ (vs ++ sp').length ∧ St w0 X w' ((b', .cells (vs ++ sp').toArray E (0, 0)) :: L) := by
  obtain ⟨v, w', hr, b', cap', sp', hv, hc, _, H'⟩ := m_append_nil2 (d := d) (ty := ty) (pos := pos) (after := after) (g := g) H hu hu2 hD hs hz hzs hi hby hm hroom ha hx
  exact ⟨v, w', hr, b', cap', sp', hv, hc, H'⟩

theorem splice_all {cs vs : List Value} (hl : cs.length = vs.length) : splice cs 0 vs = vs := by simp [splice, hl]

/-- a literal of one element -/
theorem m_bslice1 {o : Operand} {v : Value} (H : St w0 X w L) (hu : Und P T (.slice E)) (hs : Size P E sz) (hz : Zero P E z) (h0 : 0 < sz) (h24 : sz ≤ 16777216)
    (hx : evo l o = some v) (hv : v.cells = vs.toArray) (hl : vs.length = sz) :
    ∃ w' b, (execOp (evl l) ⟨d, .buildSlice T 1 [(0, o)].toArray, ty, pos, after, g⟩).run P w = .ok (.value (.slice (some ⟨b, 0, none⟩) 1 1)) w' ∧ St w0 X w' ((b, .cells vs.toArray E (0, 0)) :: L) := by
  refine ⟨_, w.heap.size, ?_, H.alloc (.cells vs.toArray E (0, 0))⟩
  let zs := ((Array.range (1 * sz)).map (z.cells[· % z.cells.size]!)).toList
  have hzl : zs.length = sz := by simp [zs]
  have hf : fillL [(0, sz)] zs [(0, v)] = some vs := by
    simp only [fillL, List.getElem?_cons_zero, hv]
    rw [if_pos ⟨hl, by simp; omega⟩]
    congr 1
    exact splice_all (by omega)
  have hfill := fill_eq [(0, sz)] (fun i => some (i * sz, sz)) [(0, v)] zs (by simp) hf
  have e : zs.toArray = (Array.range (1 * sz)).map (z.cells[· % z.cells.size]!) := Array.toArray_toList
  rw [e] at hfill
  have h1 : ¬ 1 * sz > 2 ^ 24 := by have : (2 : Nat) ^ 24 = 16777216 := by decide
                                    omega
  have h2 : ¬ 1 * sz = 0 := by omega
  simp only [execOp, Instr.buildSlice, Sem.run_bind, hu w, Result.andThen_ok, hs w, Sem.run_ite, if_neg h1, if_neg h2, hz w, Sem.run_pure]
  simp only [List.map_toArray, List.map_cons, List.map_nil, evl_of hx, hfill]
  rfl

/-- an empty literal -/
theorem m_bslice0 (H : St w0 X w L) (hu : Und P T (.slice E)) (hs : Size P E sz) :
    ∃ w' b, (execOp (evl l) ⟨d, .buildSlice T 0 ([] : List (Nat × Operand)).toArray, ty, pos, after, g⟩).run P w = .ok (.value (.slice (some ⟨b, 0, none⟩) 0 0)) w' ∧ St w0 X w' ((b, .cells ([] : List Value).toArray E (0, 0)) :: L) := by
  refine ⟨_, w.heap.size, ?_, H.alloc (.cells ([] : List Value).toArray E (0, 0))⟩
  have h1 : ¬ 0 * sz > 2 ^ 24 := by simp
  have h2 : 0 * sz = 0 := by simp
  simp only [execOp, Instr.buildSlice, Sem.run_bind, hu w, Result.andThen_ok, hs w, Sem.run_ite, if_neg h1, if_pos h2, Sem.run_pure]
  have e : (Array.range (0 * sz)).map (fun x => (#[] : Array Value)[x % (#[] : Array Value).size]!) = #[] := by simp
  simp only [List.map_toArray, List.map_nil, e, Instr.fill]
  rfl
end
end Go.Er
