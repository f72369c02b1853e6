/-
  More operations: the greater, the less, rows that are made, empty maps by whole numbers, pairs of numbers that are compared.
-/
import Derived.Test.YtbjalofmamoffaaR1
import Derived.Maps.RangeRun
namespace Go.Er
open Go
open Go.ChangeMaps (setBlock)
section
variable {P : Program} {w0 w : World} {X : List Nat} {L : List (Nat × Obj)} {l : Fr} {d : Option Tmp} {ty : TypeId} {pos : String} {after : Array Edge} {g : Option (Nat × Bool)}
  {x y z : Operand} {T T2 T' E K : TypeId} {b off sz : Nat}
theorem r_max {args : List Operand} {k k' : IntKind} {p q r : Int} {at_ : Array TypeId} (ha : Evs l args [.int k p, .int k' q]) (hr : (if q > p then q else p) = r) :
    (execOp (evl l) ⟨d, .call ⟨.builtin .max, args.toArray, at_⟩, ty, pos, after, g⟩).run P w = .ok (.value (.int k r)) w := by
  subst hr
  simp [execOp, resolve, invoke, builtin, Builtin.max_, Builtin.max2, ha.map]
/-! ### A row that is made -/
theorem made_row {α : Type} {f : α → List Value} {s : Nat} (h : Elem f s) (hs : 0 < s) (n : Nat) (x0 : α) : madeCells (f x0).toArray (n * s) = (rowC f (List.replicate n x0)).toArray := by
  have hl := h.len x0
  have hr : (rowC f (List.replicate n x0)).length = n * s := by rw [rowC_length h, List.length_replicate]
  unfold madeCells
  apply Array.ext_getElem?
  intro i
  by_cases hi : i < n * s
  · have hq : i / s < n := Nat.div_lt_of_lt_mul (by rw [Nat.mul_comm]; exact hi)
    have hm : i % s < s := Nat.mod_lt _ hs
    have hg := row_get h [] (xs := List.replicate n x0) [] (off := 0) (o := i) (i := i / s) (j := i % s) (x := x0) rfl (by rw [List.getElem?_replicate, if_pos hq]) hm (by have := Nat.div_add_mod i s; rw [Nat.mul_comm] at this; omega)
    rw [List.nil_append, List.append_nil] at hg
    have e2 : (rowC f (List.replicate n x0)).toArray[i]? = (rowC f (List.replicate n x0))[i]? := List.getElem?_toArray
    rw [e2, hg]
    have hsz : (f x0).toArray.size = s := by simpa using hl
    simp only [Array.getElem?_map, Array.getElem?_range, hi, if_true, Option.map_some, hsz]
    have hm2 : i % s < (f x0).length := by omega
    simp [hm2]
  · have e1 : (rowC f (List.replicate n x0)).toArray[i]? = none := Array.getElem?_eq_none (by rw [List.size_toArray]; omega)
    rw [e1]
    apply Array.getElem?_eq_none
    simp; omega
theorem m_makeR {α : Type} {f : α → List Value} {s : Nat} {k k' : IntKind} {n nb : Nat} {i j : Int} {v : Value} {x0 : α} (H : St w0 X w L) (h : Elem f s) (hs0 : 0 < s) (ht : P.underlying T = some (.slice E)) (hi : (P.info? E).map (fun i => (i.zero, i.size, i.bytes)) = some (some v, s, nb)) (hv : v.cells = (f x0).toArray)
    (hx : evl l x = .int k i) (hy : evl l y = .int k' j) (h1 : i = (n : Int)) (h2 : j = (n : Int)) (hr : n ≤ 140737488355328) (hby : nb * n ≤ 281474976710656) :
    ∃ w' b, (execOp (evl l) ⟨d, .makeSlice T x y, ty, pos, after, g⟩).run P w = .ok (.value (.slice (some ⟨b, 0, none⟩) n n)) w' ∧ St w0 X w' ((b, .cells (rowC f (List.replicate n x0)).toArray E (0, 0)) :: L) := by
  subst h1 h2
  obtain ⟨ti, hti, hz, hs, hb⟩ := info_parts hi
  refine ⟨_, w.heap.size, ?_, H.alloc (.cells (rowC f (List.replicate n x0)).toArray E (0, 0))⟩
  have hbytes : (ti.bytes : Int) * (n : Int) ≤ 281474976710656 := by
    rw [hb, ← Int.natCast_mul]
    exact Int.ofNat_le.2 hby
  have h5 := run_make (P := P) w T E ti v ht hti hz k k' (n : Int) (n : Int) (by omega) (by omega) hbytes (by omega)
  rw [hs, Int.toNat_natCast, hv, made_row h hs0] at h5
  simp only [execOp, hx, hy, Sem.run_bind, h5, Result.andThen_ok, Sem.run_pure]
  rfl
/-! ### Empty maps -/
def mapZ : Obj := .map #[] 0
theorem m_makeMapZ (H : St w0 X w L) : ∃ w' b, (execOp (evl l) ⟨d, .makeMap T none, ty, pos, after, g⟩).run P w = .ok (.value (.map (some b))) w' ∧ St w0 X w' ((b, mapZ) :: L) := by
  refine ⟨_, w.heap.size, ?_, H.alloc mapZ⟩
  simp [execOp, Instr.makeMap, mapZ]
theorem run_getZ (hb : w.heap[b]? = some mapZ) : (getObj b).run P w = .ok (.map #[] 0) w := by
  have hb' : w.heap[b]? = some (.map #[] 0) := hb
  simp [getObj, Sem.run, hb']
theorem run_checkZ {q : IntKind} {n : Int} (hk : Und P K (.int q)) (e : Bool) (w : World) : (Instr.checkKey e 10000 K (.int q n)).run P w = .ok () w := by
  have h : ∀ m : Nat, (Instr.checkKey e (m + 1) K (.int q n)).run P w = .ok () w := fun m => by simp [Instr.checkKey, hk w]
  exact h 9999
theorem run_findZ {q : IntKind} {n : Int} (hk : Und P K (.int q)) (w : World) : (Instr.findKey K (.int q n) []).run P w = .ok none w := by
  simp [Instr.findKey, Instr.findNow, hk w]
theorem r_lookupZ {q : IntKind} {n : Int} {v : Value} (hu : Und P T (.map K E)) (hk : Und P K (.int q)) (hz : Zero P E v) (hx : evl l x = .map (some b)) (hy : evl l y = .int q n) (hb : w.heap[b]? = some mapZ) :
    (execOp (evl l) ⟨d, .lookup T x y false, ty, pos, after, g⟩).run P w = .ok (.value v) w := by
  simp [execOp, Instr.lookup, hu w, hx, hy, run_getZ hb, run_checkZ hk, run_findZ hk, hz w]
theorem m_deleteZ {q : IntKind} {n : Int} {args : List Operand} {rest : List TypeId} (H : St w0 X w L) (hu : Und P T (.map K E)) (hk : Und P K (.int q)) (ha : Evs l args [.map (some b), .int q n]) (hb : w.heap[b]? = some mapZ) :
    ∃ v w', (execOp (evl l) ⟨d, .call ⟨.builtin .delete, args.toArray, (T :: rest).toArray⟩, ty, pos, after, g⟩).run P w = .ok (.value v) w' ∧ St w0 X w' L := by
  refine ⟨.tuple #[], w, ?_, H⟩
  have hset : (setObj b (.map #[] 0)).run P w = .ok () w := by
    have hb' : w.heap[b]? = some (.map #[] 0) := hb
    have hw : { w with heap := w.heap.setIfInBounds b (.map #[] 0) } = w := by
      have : w.heap.setIfInBounds b (.map #[] 0) = w.heap := by
        apply Array.ext_getElem?
        intro j
        rw [Array.getElem?_setIfInBounds]
        split
        · rename_i hj; subst hj
          split
          · exact hb'.symm
          · rename_i h2; rw [Array.getElem?_eq_none (by omega)]
        · rfl
      rw [this]
    simp [setObj, Sem.run, hb', hw]
  simp [execOp, resolve, invoke, builtin, Builtin.delete_, ha.map, hu w, run_getZ hb, run_checkZ hk, run_findZ hk, hset]
/-! ### Two numbers -/
structure PairT (P : Program) (T : TypeId) : Prop where
  und : P.underlying T = some (.struct (P.fieldsOf T))
  std : P.stoodInHeld T = false
  grd : P.eqGuardType P.depth T = false
  fs : ∃ (f0 f1 : Field), (P.fieldsOf T).toList = [f0, f1] ∧ f0.name ≠ "_" ∧ f1.name ≠ "_" ∧ f0.offset = 0 ∧ f1.offset = 1 ∧ P.underlying f0.type = some (.int .i64) ∧ P.underlying f1.type = some (.int .i64) ∧ IsAgg P f0.type false ∧ IsAgg P f1.type false
theorem pair_eq (h : PairT P T) (a b c e : Int) : (Op.equalIn 10000 T (.agg [.int .i64 a, .int .i64 b].toArray) (.agg [.int .i64 c, .int .i64 e].toArray)).run P w = .ok (decide (a = c ∧ b = e)) w := by
  rw [run_equalIn_agg w 9999 T _ _ h.und h.std]
  obtain ⟨f0, f1, hl, n0, n1, o0, o1, u0, u1, a0, a1⟩ := h.fs
  have p0 : ∀ p q : Int, (part f0.type [Value.int .i64 p, .int .i64 q].toArray f0.offset).run P w = .ok (.int .i64 p) w := fun p q => by
    rw [o0]; simp [part, a0 w]
  have p1 : ∀ p q : Int, (part f1.type [Value.int .i64 p, .int .i64 q].toArray f1.offset).run P w = .ok (.int .i64 q) w := fun p q => by
    rw [o1]; simp [part, a1 w]
  have q0 := run_equalIn_int (P := P) w 9998 f0.type .i64 .i64 a c u0
  have q1 := run_equalIn_int (P := P) w 9998 f1.type .i64 .i64 b e u1
  rw [hl]
  simp only [Op.eqFields, if_pos n0, if_pos n1, Sem.run_bind, p0, p1, Result.andThen_ok, q0, q1, Sem.run_ite, Sem.run_pure]
  by_cases h1 : a = c
  · by_cases h2 : b = e <;> simp [h1, h2]
  · simp [h1]
theorem r_neqP {a b c e : Int} {r : Bool} (h : PairT P T) (hx : evl l x = .agg [.int .i64 a, .int .i64 b].toArray) (hy : evl l y = .agg [.int .i64 c, .int .i64 e].toArray) (hr : (!decide (a = c ∧ b = e)) = r) : (execOp (evl l) ⟨d, .binOp .neq T x y T', ty, pos, after, g⟩).run P w = .ok (.value (.bool r)) w := by
  subst hr
  simp only [execOp, hx, hy, Sem.run_bind, run_eqGuard_agg w .neq T x y _ _ h.grd, Result.andThen_ok, run_neq_struct, pair_eq h, Sem.run_pure]
end
end Go.Er
