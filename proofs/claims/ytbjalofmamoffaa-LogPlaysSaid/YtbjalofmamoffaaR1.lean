/-
  Arrays of bytes: parts of them, copies into them, equality; rows of elements that have all the same number of cells; a method as a value.
-/
import Derived.Test.YtbjalofmamoffaaT1
import Derived.Test.YtbjalofmamoffaaK8
import Derived.Test.YtbjalofmamoffaaF7
namespace Go.Er
open Go
section
variable {P : Program} {w0 w : World} {X : List Nat} {L : List (Nat × Obj)} {l : Fr} {d : Option Tmp} {ty : TypeId} {pos : String} {after : Array Edge} {g : Option (Nat × Bool)}
  {x y z : Operand} {T T' E E' : TypeId} {b off sz : Nat}
/-- arr[lo:] -/
theorem r_sliceAL {k : IntKind} {n lo m o : Nat} {ilo : Int} (hu : Und P T (.array n E)) (hs : Size P E sz) (hx : evl l x = .pointer (some ⟨b, off, none⟩)) (hy : evl l y = .int k ilo) (h0 : ilo = (lo : Int)) (h2 : lo < n) (ho : off + lo * sz = o) (hm : n - lo = m) :
    (execOp (evl l) ⟨d, .slice T x (some y) none none, ty, pos, after, g⟩).run P w = .ok (.value (.slice (some ⟨b, o, none⟩) m m)) w := by
  subst ho hm
  have hne : ¬ n = lo := by omega
  simp only [execOp, Instr.sliceAt, Option.map_some, Option.map_none, hx, hy, Sem.run_bind, hu w, Result.andThen_ok, Instr.sureAddr, Instr.sliceBounds, Sem.run_pure, run_bound h0 (Nat.le_of_lt h2), hs w, if_neg hne, addr_add]
/-- arr[lo:hi] -/
theorem r_sliceALH {k k' : IntKind} {n lo hi m c o : Nat} {ilo ihi : Int} (hu : Und P T (.array n E)) (hs : Size P E sz) (hx : evl l x = .pointer (some ⟨b, off, none⟩)) (hy : evl l y = .int k ilo) (hz : evl l z = .int k' ihi) (h0 : ilo = (lo : Int)) (h1 : ihi = (hi : Int)) (h2 : lo ≤ hi) (h3 : hi ≤ n) (hlt : lo < n) (ho : off + lo * sz = o) (hm : hi - lo = m) (hc : n - lo = c) :
    (execOp (evl l) ⟨d, .slice T x (some y) (some z) none, ty, pos, after, g⟩).run P w = .ok (.value (.slice (some ⟨b, o, none⟩) m c)) w := by
  subst ho hm hc
  have hne : ¬ n = lo := by omega
  simp only [execOp, Instr.sliceAt, Option.map_some, Option.map_none, hx, hy, hz, Sem.run_bind, hu w, Result.andThen_ok, Instr.sureAddr, Instr.sliceBounds, Sem.run_pure, run_bound h1 h3, run_bound h0 h2, hs w, if_neg hne, addr_add]
/-- a method as a value, of an interface's value -/
theorem r_nilCheckM {name : String} {v : Value} (hx : evl l x = .func (.method name) #[.iface T v] #[]) (hn : (nilAhead (P.types.size + Made.depth) T v name).run P w = .ok (some false) w) :
    (execOp (evl l) ⟨d, .nilCheck x, ty, pos, after, g⟩).run P w = .ok (.value (.func (.method name) #[.iface T v] #[])) w := by
  have hp : (Sem.program Sem.pure).run P w = .ok P w := rfl
  simp [execOp, hx, program, hp, hn]
/-- an array of n bytes -/
structure ByT (P : Program) (n : Nat) (T : TypeId) : Prop where
  grd : P.eqGuardType P.depth T = false
  el : ∃ e, P.underlying T = some (.array n e) ∧ P.underlying e = some (.int .u8) ∧ Size P e 1
theorem by_eq {n : Nat} (h : ByT P n T) (a b : By n) : (Op.equalIn 10000 T (.agg (kC a).toArray) (.agg (kC b).toArray)).run P w = .ok (decide (a = b)) w := by
  obtain ⟨e, hu, he, hs⟩ := h.el
  have q := run_equalIn_bytes (P := P) w 9998 T e n hu he hs a.1 b.1 a.2 b.2
  have hd : decide (a = b) = (a.1 == b.1) := by
    rw [Bool.eq_iff_iff]
    simp only [decide_eq_true_eq, beq_iff_eq]
    exact ⟨fun h => by rw [h], fun h => By.ext h⟩
  rw [hd, ← q]
  rfl
theorem r_eqlB {n : Nat} {a b : By n} (h : ByT P n T) (hx : evl l x = .agg (kC a).toArray) (hy : evl l y = .agg (kC b).toArray) : (execOp (evl l) ⟨d, .binOp .eql T x y T', ty, pos, after, g⟩).run P w = .ok (.value (.bool (decide (a = b)))) w := by
  simp only [execOp, hx, hy, Sem.run_bind, run_eqGuard_agg w .eql T x y _ _ h.grd, Result.andThen_ok, run_eql_struct, by_eq h, Sem.run_pure]
theorem r_neqB {n : Nat} {a b : By n} (h : ByT P n T) (hx : evl l x = .agg (kC a).toArray) (hy : evl l y = .agg (kC b).toArray) : (execOp (evl l) ⟨d, .binOp .neq T x y T', ty, pos, after, g⟩).run P w = .ok (.value (.bool (decide (a ≠ b)))) w := by
  have e : (!decide (a = b)) = decide (a ≠ b) := by simp
  simp only [execOp, hx, hy, Sem.run_bind, run_eqGuard_agg w .neq T x y _ _ h.grd, Result.andThen_ok, run_neq_struct, by_eq h, Sem.run_pure, e]
/-- copy, of what a Src shows -/
theorem m_copyS {T2 : TypeId} {args : List Operand} {dl dc m : Nat} {u : Value} {cs cs' vs : List Value} (H : St w0 X w L) (k : Nat) (hu : Und P T (.slice E)) (hs : Size P E sz) (ha : Evs l args [.slice (some ⟨b, off, none⟩) dl dc, u]) (hx : Src P w sz u m vs) (hmn : m ≤ dl)
    (hk : L[k]? = some (b, .cells cs.toArray E' (0, 0))) (ho : off + vs.length ≤ cs.length) (hset : splice cs off vs = cs') :
    ∃ v w', (execOp (evl l) ⟨d, .call ⟨.builtin .copy, args.toArray, [T, T2].toArray⟩, ty, pos, after, g⟩).run P w = .ok (.value v) w' ∧ St w0 X w' (L.set k (b, .cells cs'.toArray E' (0, 0))) := by
  subst hset
  have hcl : (Builtin.firstCells sz m u).run P w = .ok vs.toArray w := hx.cells w.drawn
  have hlen := hx.len
  have hmn' : Nat.min m dl = m := Nat.min_eq_left hmn
  have hb := H.at k hk
  have hst := run_storeCells_at (P := P) b off E' vs 0 cs.toArray w hb (by simpa using ho) hx.one
  refine ⟨.int .i64 (m : Int), w.setRow b (splice cs off vs).toArray, ?_, H.setRow k _ hk⟩
  have hrun : (execOp (evl l) ⟨d, .call ⟨.builtin .copy, args.toArray, [T, T2].toArray⟩, ty, pos, after, g⟩).run P w = ((Builtin.copy_ #[T, T2] ty #[.slice (some ⟨b, off, none⟩) dl dc, u]).run P w).andThen fun v w' => .ok (.value v) w' := by
    simp [execOp, resolve, invoke, builtin, ha.map]
  rw [hrun]
  simp only [Nat.add_zero] at hst
  simp only [Builtin.copy_, List.getElem?_toArray, List.getElem?_cons_zero, List.getElem?_cons_succ, Sem.run_bind, hu w, Result.andThen_ok, hlen, hmn', hs w, hcl, hst, Sem.run_pure, splice]
  rfl
end
theorem res3 {fn : Func} {w : World} {l : List Value} {P : Program} {a b c : Tmp} {v1 v2 v3 : Value} (hf : fn.results = #[.tmp a, .tmp b, .tmp c]) (h1 : l[a]? = some v1) (h2 : l[b]? = some v2) (h3 : l[c]? = some v3) : (results fn l.toArray).run P w = .ok (.tuple #[v1, v2, v3]) w := by
  unfold results
  rw [hf]
  simp [h1, h2, h3]
theorem res4 {fn : Func} {w : World} {l : List Value} {P : Program} {a b c d : Tmp} {v1 v2 v3 v4 : Value} (hf : fn.results = #[.tmp a, .tmp b, .tmp c, .tmp d]) (h1 : l[a]? = some v1) (h2 : l[b]? = some v2) (h3 : l[c]? = some v3) (h4 : l[d]? = some v4) : (results fn l.toArray).run P w = .ok (.tuple #[v1, v2, v3, v4]) w := by
  unfold results
  rw [hf]
  simp [h1, h2, h3, h4]
/-! ### Rows of elements -/
structure Elem {α : Type} (f : α → List Value) (sz : Nat) : Prop where
  len : ∀ x, (f x).length = sz
  one : ∀ x, ∀ v ∈ f x, v.oneCell' = true
def rowC {α : Type} (f : α → List Value) (xs : List α) : List Value := xs.flatMap f
section
variable {α : Type} {f : α → List Value} {sz : Nat}
theorem rowC_append (xs ys : List α) : rowC f (xs ++ ys) = rowC f xs ++ rowC f ys := by simp [rowC]
theorem rowC_one1 (x : α) : rowC f [x] = f x := by simp [rowC]
theorem rowC_length (h : Elem f sz) (xs : List α) : (rowC f xs).length = xs.length * sz := by
  induction xs with
  | nil => simp [rowC]
  | cons x xs ih => simp only [rowC, List.flatMap_cons, List.length_append, h.len, List.length_cons] at ih ⊢; rw [ih, Nat.add_mul, Nat.one_mul, Nat.add_comm]
theorem rowC_oneC (h : Elem f sz) (xs : List α) : ∀ v ∈ rowC f xs, v.oneCell' = true := by
  intro v hv
  obtain ⟨x, _, hv⟩ := List.mem_flatMap.1 hv
  exact h.one x v hv
theorem row_split {xs : List α} {i : Nat} {x : α} (hx : xs[i]? = some x) : xs = xs.take i ++ x :: xs.drop (i + 1) := by
  have hi : i < xs.length := by
    rcases Nat.lt_or_ge i xs.length with h | h
    · exact h
    · rw [List.getElem?_eq_none h] at hx; cases hx
  have : xs[i] = x := by rw [List.getElem?_eq_getElem hi] at hx; exact Option.some.inj hx
  rw [← this]; simp
theorem row_cells (h : Elem f sz) {xs : List α} {i : Nat} {x : α} (hx : xs[i]? = some x) : ∃ A B, rowC f xs = A ++ (f x ++ B) ∧ A.length = i * sz := by
  have hi : i < xs.length := by
    rcases Nat.lt_or_ge i xs.length with h | h
    · exact h
    · rw [List.getElem?_eq_none h] at hx; cases hx
  refine ⟨rowC f (xs.take i), rowC f (xs.drop (i + 1)), ?_, ?_⟩
  · conv => lhs; rw [row_split hx]
    unfold rowC
    rw [List.flatMap_append, List.flatMap_cons]
  · rw [rowC_length h, List.length_take, Nat.min_eq_left (by omega)]
theorem row_td (h : Elem f sz) (pre : List Value) {xs : List α} (post : List Value) {off o i : Nat} {x : α} (ho : pre.length = off) (hx : xs[i]? = some x) (he : o = off + i * sz) : ((pre ++ rowC f xs ++ post).drop o).take sz = f x := by
  subst he ho
  obtain ⟨A, B, hA, hl⟩ := row_cells h hx
  have hlx := h.len x
  rw [hA, ← hl]
  have e : pre ++ (A ++ (f x ++ B)) ++ post = (pre ++ A) ++ (f x ++ (B ++ post)) := by simp
  rw [e, ← List.length_append, List.drop_append, List.drop_of_length_le (Nat.le_refl _), List.nil_append, Nat.sub_self, List.drop_zero, List.take_append, List.take_of_length_le (by omega), hlx, Nat.sub_self]
  simp
theorem row_get (h : Elem f sz) (pre : List Value) {xs : List α} (post : List Value) {off o i j : Nat} {x : α} (ho : pre.length = off) (hx : xs[i]? = some x) (hj : j < sz) (he : o = off + i * sz + j) : (pre ++ rowC f xs ++ post)[o]? = (f x)[j]? := by
  subst he ho
  obtain ⟨A, B, hA, hl⟩ := row_cells h hx
  have hlx := h.len x
  rw [hA, ← hl]
  have e : pre ++ (A ++ (f x ++ B)) ++ post = (pre ++ A) ++ (f x ++ (B ++ post)) := by simp
  rw [e, List.getElem?_append_right (by rw [List.length_append]; omega), List.length_append]
  have e2 : pre.length + A.length + j - (pre.length + A.length) = j := by omega
  rw [e2, List.getElem?_append_left (by omega)]
theorem row_set (h : Elem f sz) {xs : List α} {sp : List Value} {o i : Nat} (y : α) (hi : i < xs.length) (he : o = i * sz) : splice (rowC f xs ++ sp) o (f y) = rowC f (xs.set i y) ++ sp := by
  subst he
  have hx : xs[i]? = some xs[i] := List.getElem?_eq_getElem hi
  have e1 : xs.set i y = xs.take i ++ (y :: xs.drop (i + 1)) := by
    rw [List.set_eq_take_append_cons_drop, if_pos hi]
  have hl : (rowC f (xs.take i)).length = i * sz := by rw [rowC_length h, List.length_take, Nat.min_eq_left (by omega)]
  have h1 : rowC f xs = rowC f (xs.take i) ++ (f xs[i] ++ rowC f (xs.drop (i + 1))) := by
    conv => lhs; rw [row_split hx]
    unfold rowC
    rw [List.flatMap_append, List.flatMap_cons]
  have h2 : rowC f (xs.set i y) = rowC f (xs.take i) ++ (f y ++ rowC f (xs.drop (i + 1))) := by
    rw [e1]; unfold rowC
    rw [List.flatMap_append, List.flatMap_cons]
  have h3 : rowC f xs ++ sp = rowC f (xs.take i) ++ (f xs[i] ++ (rowC f (xs.drop (i + 1)) ++ sp)) := by rw [h1]; simp
  rw [h3, h2, splice_at hl, h.len, List.drop_append, List.drop_of_length_le (by rw [h.len]; exact Nat.le_refl _), h.len, Nat.sub_self]
  simp
/-- a row that a slice shows -/
def RRow (f : α → List Value) (w : World) (a : Option Addr) (xs : List α) : Prop :=
  0 < xs.length → ∃ b off pre post T fz, a = some ⟨b, off, none⟩ ∧ w.heap[b]? = some (.cells (pre ++ rowC f xs ++ post).toArray T fz) ∧ pre.length = off
variable {P : Program} {w0 w : World} {X : List Nat} {L N : List (Nat × Obj)} {a : Option Addr} {E : TypeId} {n cap : Nat}
theorem RRow.st {xs : List α} (h : RRow f w0 a xs) (H : St w0 [] w L) : RRow f w a xs := by
  intro hx
  obtain ⟨b, off, pre, post, T, fz, e, hb, hp⟩ := h hx
  exact ⟨b, off, pre, post, T, fz, e, H.rd0 hb, hp⟩
theorem RRow.src {xs : List α} (he : Elem f sz) (h : RRow f w a xs) (c : Nat) : Src P w sz (.slice a xs.length c) xs.length (rowC f xs) := by
  refine ⟨by simp [Builtin.lenOf], fun k => ?_, rowC_length he xs, rowC_oneC he xs⟩
  by_cases h0 : 0 < xs.length
  · obtain ⟨b, off, pre, post, T, fz, rfl, hb, hp⟩ := h h0
    simp only [Builtin.firstCells]
    refine run_loadRow (w := { w with drawn := k }) hb ?_ (rowC_length he xs)
    subst hp
    rw [List.append_assoc, List.drop_append, List.drop_of_length_le (Nat.le_refl _), List.nil_append, Nat.sub_self, List.drop_zero, List.take_append, List.take_of_length_le (by rw [rowC_length he]; exact Nat.le_refl _), rowC_length he, Nat.sub_self]
    simp
  · have e : xs = [] := List.length_eq_zero_iff.1 (by omega)
    subst e
    cases a with
    | none => simp [Builtin.firstCells, rowC]
    | some a =>
      simp only [Builtin.firstCells, List.length_nil, Nat.zero_mul]
      refine run_loadCells_list (P := P) { w with drawn := k } a [] fun j v hj => ?_
      simp at hj
theorem RowN.rrowM {xs : List α} (h : RowN sz E (rowC f xs) n a cap N) (h0 : 0 < xs.length → 0 < n) (H : St w0 X w L) (hs : ∀ p ∈ N, p ∈ L) : RRow f w a xs := by
  intro hx
  have hn := h0 hx
  obtain ⟨hl, _, ⟨rfl, _⟩ | ⟨b, sp, rfl, _, rfl⟩⟩ := h
  · omega
  · exact ⟨b, 0, [], sp, E, (0, 0), rfl, H.own (b, _) (hs _ (List.mem_singleton.2 rfl)), rfl⟩
end
end Go.Er
