/-
  The operations that read and write memory, at the state 'St'.
-/
import Derived.Test.YtbjalofmamoffaaK1
namespace Go.Er
open Go

section
variable {P : Program} {w0 w : World} {X : List Nat} {L L' : List (Nat × Obj)} {l : Fr} {d : Option Tmp} {ty : TypeId} {pos : String} {after : Array Edge} {g : Option (Nat × Bool)}
  {x y : Operand} {T E : TypeId} {b off : Nat} {cs cs' vs : List Value} {v : Value} {fz : Nat × Nat}

/-- cells with 'vs' laid over them from 'off' on -/
def splice (cs : List Value) (off : Nat) (vs : List Value) : List Value := cs.take off ++ vs ++ cs.drop (off + vs.length)

theorem splice_length (h : off + vs.length ≤ cs.length) : (splice cs off vs).length = cs.length := by
  simp [splice]; omega

theorem addr_add (b off n : Nat) : (⟨b, off, none⟩ : Addr).add n = ⟨b, off + n, none⟩ := by
  unfold Addr.add; split <;> simp_all

theorem St.setRow (h : St w0 X w L) (k : Nat) (cs' : List Value) (hk : L[k]? = some (b, .cells cs.toArray E fz)) : St w0 X (w.setRow b cs'.toArray) (L.set k (b, .cells cs'.toArray E fz)) := by
  have hb := h.at k hk
  exact h.put k hk rfl rfl rfl rfl (size_setRow w b _) (setRow_heap w b _ _ _ _ hb) (fun c hc => setRow_other w b c _ hc)

/-! ### Addresses -/
theorem r_fieldAddr {fs : Array Field} {i k n : Nat} {f : Field} (hu : Und P T (.struct fs)) (hf : fs[i]? = some f) (hz : Size P f.type n) (hn : n ≠ 0) (hk : f.offset = k)
    (hx : evl l x = .pointer (some ⟨b, off, none⟩)) : (execOp (evl l) ⟨d, .fieldAddr T x i, ty, pos, after, g⟩).run P w = .ok (.value (.pointer (some ⟨b, off + k, none⟩))) w := by
  subst hk
  simp [execOp, Instr.fieldAt, hu w, hf, Instr.sureAddr, hx, fieldPlace, hz w, hn, addr_add]

theorem r_indexAddrS {sz len cap : Nat} {k : IntKind} {i : Int} (hu : Und P T (.slice E)) (hs : Size P E sz) (hx : evl l x = .slice (some ⟨b, off, none⟩) len cap) (hy : evl l y = .int k i) (h0 : 0 ≤ i) (h1 : i < len) :
    (execOp (evl l) ⟨d, .indexAddr T x y, ty, pos, after, g⟩).run P w = .ok (.value (.pointer (some ⟨b, off + i.toNat * sz, none⟩))) w := by
  simp [execOp, Instr.indexAt, hu w, asIntOf, hx, hy, h0, h1, hs w, addr_add]

theorem r_indexAddrA {sz len : Nat} {k : IntKind} {i : Int} (hu : Und P T (.array len E)) (hs : Size P E sz) (hx : evl l x = .pointer (some ⟨b, off, none⟩)) (hy : evl l y = .int k i) (h0 : 0 ≤ i) (h1 : i < len) :
    (execOp (evl l) ⟨d, .indexAddr T x y, ty, pos, after, g⟩).run P w = .ok (.value (.pointer (some ⟨b, off + i.toNat * sz, none⟩))) w := by
  simp [execOp, Instr.indexAt, hu w, asIntOf, hx, hy, h0, h1, hs w, addr_add, Instr.sureAddr]

/-! ### Loads -/
theorem cell_at (hb : w.heap[b]? = some (.cells cs.toArray E fz)) : w.cell? ⟨b, off, none⟩ = cs[off]? := by
  simp [World.cell?, hb]

theorem r_load1 (ha : IsAgg P T false) (hx : evl l x = .pointer (some ⟨b, off, none⟩)) (hb : w.heap[b]? = some (.cells cs.toArray E fz)) (hc : cs[off]? = some v) :
    (execOp (evl l) ⟨d, .load T x, ty, pos, after, g⟩).run P w = .ok (.value v) w := by
  have h : w.cell? ⟨b, off, none⟩ = some v := (cell_at hb).trans hc
  simp [execOp, Instr.loadAt, Instr.sureAddr, hx, loadVar, ha w, h]

theorem run_loadRow (hb : w.heap[b]? = some (.cells cs.toArray E fz)) {n : Nat} (hc : (cs.drop off).take n = vs) (hn : vs.length = n) : (loadCells ⟨b, off, none⟩ n).run P w = .ok vs.toArray w := by
  subst hn
  refine run_loadCells_list (P := P) w _ vs fun j v hj => ?_
  rw [addr_add, cell_at hb]
  rw [← hc, List.getElem?_take] at hj
  split at hj
  · simpa using hj
  · cases hj

theorem r_loadn {n : Nat} (ha : IsAgg P T true) (hs : Size P T n) (hx : evl l x = .pointer (some ⟨b, off, none⟩)) (hb : w.heap[b]? = some (.cells cs.toArray E fz)) (hc : (cs.drop off).take n = vs) (hn : vs.length = n) :
    (execOp (evl l) ⟨d, .load T x, ty, pos, after, g⟩).run P w = .ok (.value (.agg vs.toArray)) w := by
  have h := run_loadRow (P := P) hb hc hn
  simp [execOp, Instr.loadAt, Instr.sureAddr, hx, loadVar, ha w, hs w, h]

/-! ### Stores -/
theorem m_store1 (H : St w0 X w L) (k : Nat) (hs : Size P T 1) (hx : evl l x = .pointer (some ⟨b, off, none⟩)) (hy : evo l y = some v) (h1 : v.oneCell' = true)
    (hk : L[k]? = some (b, .cells cs.toArray E (0, 0))) (ho : off < cs.length) (hset : cs.set off v = cs') :
    ∃ w', (execOp (evl l) ⟨d, .store T x y, ty, pos, after, g⟩).run P w = .ok .skip w' ∧ St w0 X w' (L.set k (b, .cells cs'.toArray E (0, 0))) := by
  subst hset
  have hb := H.at k hk
  have hst := run_storeCells_at (P := P) b off E [v] 0 cs.toArray w hb (by simp; omega) (by simpa using h1)
  have hcells : v.cells = #[v] := by cases v <;> first | rfl | (simp [Value.oneCell'] at h1)
  refine ⟨w.setRow b (cs.set off v).toArray, ?_, H.setRow k _ hk⟩
  have e : (cs.set off v) = cs.take off ++ [v] ++ cs.drop (off + 1) := by
    rw [List.set_eq_take_append_cons_drop, if_pos ho]; simp
  simp only [Nat.add_zero, List.length_singleton] at hst
  rw [← e] at hst
  simp [execOp, Instr.storeAt, Instr.sureAddr, hx, evl_of hy, storeVar, hs w, hcells, hst]

theorem m_storen (H : St w0 X w L) (k n : Nat) (hs : Size P T n) (hx : evl l x = .pointer (some ⟨b, off, none⟩)) (hy : evl l y = .agg vs.toArray) (hn : vs.length = n) (h1 : ∀ v ∈ vs, v.oneCell' = true)
    (hk : L[k]? = some (b, .cells cs.toArray E (0, 0))) (ho : off + n ≤ cs.length) (hset : splice cs off vs = cs') :
    ∃ w', (execOp (evl l) ⟨d, .store T x y, ty, pos, after, g⟩).run P w = .ok .skip w' ∧ St w0 X w' (L.set k (b, .cells cs'.toArray E (0, 0))) := by
  subst hset
  subst hn
  have hb := H.at k hk
  have hst := run_storeCells_at (P := P) b off E vs 0 cs.toArray w hb (by simpa using ho) h1
  refine ⟨w.setRow b (splice cs off vs).toArray, ?_, H.setRow k _ hk⟩
  simp only [Nat.add_zero] at hst
  simp [execOp, Instr.storeAt, Instr.sureAddr, hx, hy, storeVar, hs w, Value.cells, hst, splice]

/-! ### Composite literals -/
theorem foldl_splice (off : Nat) : ∀ (vs : List Value) (i : Nat) (cs : List Value), off + i + vs.length ≤ cs.length →
    (vs.zipIdx i).foldl (fun cs (p : Value × Nat) => cs.setIfInBounds (off + p.2) p.1) cs.toArray = (splice cs (off + i) vs).toArray
  | [], i, cs, _ => by simp [splice]
  | v :: vs, i, cs, h => by
    simp only [List.length_cons] at h
    rw [List.zipIdx_cons, List.foldl_cons]
    have e : cs.toArray.setIfInBounds (off + i) v = (cs.set (off + i) v).toArray := by simp
    rw [e, foldl_splice off vs (i + 1) (cs.set (off + i) v) (by simp; omega)]
    congr 1
    unfold splice
    have h1 : off + i < cs.length := by omega
    rw [List.set_eq_take_append_cons_drop, if_pos h1]
    have hl : (cs.take (off + i)).length = off + i := by simp; omega
    have h2 : (cs.take (off + i) ++ v :: cs.drop (off + i + 1)).take (off + (i + 1)) = cs.take (off + i) ++ [v] := by
      rw [List.take_append, hl, List.take_of_length_le (by omega)]
      have : off + (i + 1) - (off + i) = 1 := by omega
      rw [this]; rfl
    have h3 : (cs.take (off + i) ++ v :: cs.drop (off + i + 1)).drop (off + (i + 1) + vs.length) = cs.drop (off + i + (v :: vs).length) := by
      rw [List.drop_append, hl, List.drop_of_length_le (by omega), List.nil_append]
      have : off + (i + 1) + vs.length - (off + i) = vs.length + 1 := by omega
      rw [this, List.drop_succ_cons, List.drop_drop]
      congr 1
      simp only [List.length_cons]
      omega
    rw [h2, h3]
    simp

/-- parts laid over cells -/
def fillL (pl : List (Nat × Nat)) : List Value → List (Nat × Value) → Option (List Value)
  | cells, [] => some cells
  | cells, (i, v) :: rest => match pl[i]? with
    | none => none
    | some (off, size) => if v.cells.toList.length = size ∧ off + v.cells.toList.length ≤ cells.length then fillL pl (splice cells off v.cells.toList) rest else none

theorem fill_eq (pl : List (Nat × Nat)) (place : Nat → Option (Nat × Nat)) : ∀ (parts : List (Nat × Value)) (cells : List Value) {out : List Value}, (∀ p ∈ parts, place p.1 = pl[p.1]?) → fillL pl cells parts = some out → Instr.fill place cells.toArray parts = some out.toArray
  | [], cells, out, _, h => by simp only [fillL, Option.some.injEq] at h; subst h; rfl
  | (i, v) :: rest, cells, out, hp, h => by
    unfold fillL at h
    unfold Instr.fill
    rw [hp (i, v) (by simp)]
    split at h
    · cases h
    · rename_i off size heq
      simp only [heq]
      split at h
      · rename_i hc
        obtain ⟨h1, h2⟩ := hc
        have h1' : v.cells.size = size := by simpa using h1
        have h2' : off + v.cells.size ≤ cells.length := by simpa using h2
        have hf := foldl_splice off v.cells.toList 0 cells (by simpa using h2')
        have e : v.cells.zipIdx.foldl (fun cs (p : Value × Nat) => cs.setIfInBounds (off + p.2) p.1) cells.toArray = (splice cells off v.cells.toList).toArray := by
          rw [← Array.foldl_toList, Array.toList_zipIdx]
          simpa using hf
        have hcond : (decide (v.cells.size ≠ size) || decide (off + v.cells.size > cells.toArray.size)) = false := by
          subst h1'
          simp
          omega
        rw [if_neg (by rw [hcond]; simp)]
        have := fill_eq pl place rest (splice cells off v.cells.toList) (fun p hp' => hp p (List.mem_cons_of_mem _ hp')) h
        rw [← e] at this
        exact this
      · cases h

/-- how a struct's parts lie -/
def Places (P : Program) (fs : Array Field) (pl : List (Nat × Nat)) : Prop := ∀ w, (fs.mapM fun (f : Field) => (do pure (f.offset, ← sizeOf f.type) : Sem (Nat × Nat))).run P w = .ok pl.toArray w

def EvP (F : Fr) : List (Nat × Operand) → List (Nat × Value) → Prop
  | [], [] => True
  | (i, x) :: xs, (j, v) :: vs => i = j ∧ evo F x = some v ∧ EvP F xs vs
  | _, _ => False
theorem pn {F : Fr} : EvP F [] [] := trivial
theorem pc {F : Fr} {i : Nat} {x : Operand} {xs : List (Nat × Operand)} {v : Value} {vs : List (Nat × Value)} (h : evo F x = some v) (t : EvP F xs vs) : EvP F ((i, x) :: xs) ((i, v) :: vs) := ⟨rfl, h, t⟩
theorem EvP.map {F : Fr} : ∀ {xs : List (Nat × Operand)} {vs : List (Nat × Value)}, EvP F xs vs → xs.map (fun (p : Nat × Operand) => (p.1, evl F p.2)) = vs
  | [], [], _ => rfl
  | (i, x) :: xs, (j, v) :: vs, h => by
    obtain ⟨e, h, hs⟩ := h
    subst e
    rw [List.map_cons, EvP.map hs, evl_of h]
  | [], _ :: _, h => h.elim
  | _ :: _, [], h => h.elim

theorem r_buildS {fs : Array Field} {pl : List (Nat × Nat)} {zs out : List Value} {parts : List (Nat × Operand)} {pv : List (Nat × Value)} (hu : Und P T (.struct fs)) (hz : Zero P T (.agg zs.toArray)) (hp : Places P fs pl)
    (hv : EvP l parts pv) (hf : fillL pl zs pv = some out) : (execOp (evl l) ⟨d, .build T parts.toArray, ty, pos, after, g⟩).run P w = .ok (.value (.agg out.toArray)) w := by
  have h1 := fill_eq pl (fun i => pl.toArray[i]?) pv zs (fun p _ => by simp) hf
  have h2 := hv.map
  have h3 := hp w
  simp only [execOp, Instr.build, Sem.run_bind, hz w, Result.andThen_ok, hu w]
  rw [h3]
  simp only [Result.andThen_ok, Value.cells]
  have h4 : (Array.map (fun (x : Nat × Operand) => match x with | (i, x) => (i, evl l x)) parts.toArray).toList = pv := by
    rw [← h2]; simp
  rw [h4, h1]
  rfl

/-! ### New blocks -/
theorem m_alloc {z : Value} (H : St w0 X w L) (hz : Zero P T z) (hc : z.cells = cs.toArray) :
    ∃ w' b, (execOp (evl l) ⟨d, .alloc T, ty, pos, after, g⟩).run P w = .ok (.value (.pointer (some ⟨b, 0, none⟩))) w' ∧ St w0 X w' ((b, .cells cs.toArray T (0, 0)) :: L) := by
  refine ⟨_, w.heap.size, ?_, H.alloc (.cells cs.toArray T (0, 0))⟩
  simp [execOp, Instr.alloc, hz w, newVar, newRow, hc]

theorem m_box (H : St w0 X w L) (hx : evo l x = some v) (hc : v.cells = cs.toArray) :
    ∃ w' b, (execOp (evl l) ⟨d, .box T x, ty, pos, after, g⟩).run P w = .ok (.value (.pointer (some ⟨b, 0, none⟩))) w' ∧ St w0 X w' ((b, .cells cs.toArray T (0, 0)) :: L) := by
  refine ⟨_, w.heap.size, ?_, H.alloc (.cells cs.toArray T (0, 0))⟩
  simp [execOp, Instr.box, newVar, newRow, evl_of hx, hc]

end

/-! ### Results -/
section
variable {P : Program} {w : World} {l : List Value} {T E : TypeId} {b off : Nat} {cs vs : List Value} {v v1 v2 v3 : Value} {fz : Nat × Nat} {fn : Func} {r1 r2 r3 : ResultVar}

def RC (P : Program) (l : List Value) (w : World) (r : ResultVar) (v : Value) : Prop :=
  match r with
  | .tmp t => l[t]? = some v
  | .cell a t => ∃ ad, l[a]? = some (.pointer (some ad)) ∧ (loadVar t ad).run P w = .ok v w

theorem rc_tmp {t : Tmp} (h : l[t]? = some v) : RC P l w (.tmp t) v := h
theorem rc_cell1 {t : Tmp} (ha : IsAgg P T false) (h : l[t]? = some (.pointer (some ⟨b, off, none⟩))) (hb : w.heap[b]? = some (.cells cs.toArray E fz)) (hc : cs[off]? = some v) : RC P l w (.cell t T) v := by
  have h2 : w.cell? ⟨b, off, none⟩ = some v := (cell_at hb).trans hc
  exact ⟨_, h, by simp [loadVar, ha w, h2]⟩
theorem rc_celln {t : Tmp} {n : Nat} (ha : IsAgg P T true) (hs : Size P T n) (h : l[t]? = some (.pointer (some ⟨b, off, none⟩))) (hb : w.heap[b]? = some (.cells cs.toArray E fz)) (hc : (cs.drop off).take n = vs) (hn : vs.length = n) : RC P l w (.cell t T) (.agg vs.toArray) := by
  have h2 := run_loadRow (P := P) hb hc hn
  exact ⟨_, h, by simp [loadVar, ha w, hs w, h2]⟩
theorem rc_one (hf : fn.results = #[r1]) (h1 : RC P l w r1 v1) : (results fn l.toArray).run P w = .ok v1 w := by
  unfold results
  rw [hf]
  cases r1
  · have h1 : l[_]? = some v1 := h1
    simp [h1]
  · obtain ⟨a, h1, k1⟩ := h1
    simp [h1, k1, asAddr]
theorem rc_two (hf : fn.results = #[r1, r2]) (h1 : RC P l w r1 v1) (h2 : RC P l w r2 v2) : (results fn l.toArray).run P w = .ok (.tuple #[v1, v2]) w := by
  unfold results
  rw [hf]
  cases r1
  · have h1 : l[_]? = some v1 := h1
    cases r2
    · have h2 : l[_]? = some v2 := h2
      simp [h1, h2]
    · obtain ⟨a2, h2, k2⟩ := h2
      simp [h1, h2, k2, asAddr]
  · obtain ⟨a, h1, k1⟩ := h1
    cases r2
    · have h2 : l[_]? = some v2 := h2
      simp [h1, h2, k1, asAddr]
    · obtain ⟨a2, h2, k2⟩ := h2
      simp [h1, h2, k1, k2, asAddr]
end

/-! ### The steps -/
section
variable {P : Program} {Q : Exit → Act → World → Prop} {w0 w : World} {X : List Nat} {L L1 L' : List (Nat × Obj)} {F : Fr} {d : Option Tmp} {ty : TypeId} {pos : String} {after : Array Edge}
  {ops : Array Oper} {rest : List Oper} {op : Op}

theorem s_st (h : ∃ w', (execOp (evl F) ⟨d, op, ty, pos, after, none⟩).run P w = .ok .skip w' ∧ St w0 X w' L1) (hL : L1 = L')
    (k : ∀ w', St w0 X w' L' → WL P ops Q rest (putl F d undef) w') : WL P ops Q (⟨d, op, ty, pos, after, none⟩ :: rest) F w := by
  subst hL
  obtain ⟨w', hr, hS⟩ := h
  exact s_skip hr (k w' hS)

theorem s_new {V : Nat → Value} {N : Nat → Nat × Obj} (h : ∃ w' b, (execOp (evl F) ⟨d, op, ty, pos, after, none⟩).run P w = .ok (.value (V b)) w' ∧ St w0 X w' (N b :: L))
    (k : ∀ w' b, St w0 X w' (N b :: L) → WL P ops Q rest (putl F d (V b)) w') : WL P ops Q (⟨d, op, ty, pos, after, none⟩ :: rest) F w := by
  obtain ⟨w', b, hr, hS⟩ := h
  exact s_val hr (k w' b hS)

/-- whatever an operation gives, told by R -/
theorem s_any {R : Value → World → Prop} (h : ∃ v w', (execOp (evl F) ⟨d, op, ty, pos, after, none⟩).run P w = .ok (.value v) w' ∧ R v w')
    (k : ∀ v w', R v w' → WL P ops Q rest (putl F d v) w') : WL P ops Q (⟨d, op, ty, pos, after, none⟩ :: rest) F w := by
  obtain ⟨v, w', hr, hR⟩ := h
  exact s_val hr (k v w' hR)
end
end Go.Er
