import Derived.Test.YtobfnieebiakeaaPVx1
import Derived.Test.YtobfnieebiakeaaPCx1
/-
  Maps from whole numbers to any values: made, written, counted, ranged over.
-/
namespace Go.Er
open Go
open Go.ChangeMaps (setBlock)
def vE (l : List (Int × Value)) : List MapEntry := l.zipIdx.map fun p => { key := .int .u64 p.1.1, val := p.1.2, born := p.2 }
def vmO (l : List (Int × Value)) : Obj := .map (vE l).toArray l.length
def vitO (b : Nat) (l : List (Int × Value)) (seen : List Nat) : Obj := .mapIter (some b) l.length seen.toArray l.length
/-- where a key stands -/
def atV : List (Int × Value) → Int → Option Nat
  | [], _ => none
  | p :: l, n => if p.1 = n then some 0 else (atV l n).map (· + 1)
/-- a value put under a key -/
def putV (l : List (Int × Value)) (n : Int) (v : Value) : List (Int × Value) := match atV l n with
  | some i => l.set i (n, v)
  | none => l ++ [(n, v)]
theorem atV_some : ∀ {l : List (Int × Value)} {n : Int} {i : Nat}, atV l n = some i → ∃ v, l[i]? = some (n, v)
  | [], _,_, h => nomatch h
  | p :: l, n, i, h => by
    unfold atV at h
    split at h
    · rename_i hp
      injection h with h; subst h
      exact ⟨p.2, by subst hp; rfl⟩
    · cases ha : atV l n with
      | none => rw [ha] at h; cases h
      | some j =>
        rw [ha] at h
        injection h with h; subst h
        obtain ⟨v, hv⟩ := atV_some ha
        exact ⟨v, hv⟩
theorem vE_length (l : List (Int × Value)) : (vE l).length = l.length := by simp [vE]
theorem vE_snoc (l : List (Int × Value)) (n : Int) (v : Value) : vE (l ++ [(n, v)]) = vE l ++ [{ key := .int .u64 n, val := v, born := l.length }] := by
  simp [vE, List.zipIdx_append]
theorem vE_at {l : List (Int × Value)} {i : Nat} {p : Int × Value} (h : l[i]? = some p) : (vE l)[i]? = some { key := .int .u64 p.1, val := p.2, born := i } := by
  simp [vE, List.getElem?_map, List.getElem?_zipIdx, h]
theorem vE_mem {l : List (Int × Value)} {e : MapEntry} (h : e ∈ vE l) : ∃ i p, l[i]? = some p ∧ e = { key := .int .u64 p.1, val := p.2, born := i } := by
  obtain ⟨i, hi, he⟩ := List.getElem_of_mem h
  have hl : i < l.length := by rw [vE_length] at hi; exact hi
  refine ⟨i, l[i], List.getElem?_eq_getElem hl, ?_⟩
  have h2 := vE_at (List.getElem?_eq_getElem hl)
  rw [List.getElem?_eq_getElem hi, he] at h2
  exact Option.some.inj h2
theorem vE_born (l : List (Int × Value)) : (vE l).map (·.born) = List.range l.length := by
  have h : ∀ (l : List (Int × Value)) (k : Nat), (l.zipIdx k).map (fun p => p.2) = List.range' k l.length := by
    intro l
    induction l with
    | nil => intro k; rfl
    | cons x xs ih => intro k; rw [List.zipIdx_cons, List.map_cons, ih, List.length_cons, List.range'_succ]
  rw [vE, List.map_map, List.range_eq_range']
  exact h l 0
def vOf (p : (Int × Value) × Nat) : MapEntry := { key := .int .u64 p.1.1, val := p.1.2, born := p.2 }
theorem vfind {n : Int} : ∀ (l : List (Int × Value)) (k j : Nat), Instr.findNow (.int .u64) (.int .u64 n) ((l.zipIdx k).map vOf) j = some (match atV l n with
    | none => none
    | some i => some (j + i, ((l[i]?).map (·.2)).getD undef))
  | [], _,_ => rfl
  | p :: l, k, j => by
    rw [List.zipIdx_cons, List.map_cons]
    by_cases hx : p.1 = n
    · have hb : (n == p.1) = true := by rw [beq_iff_eq]; exact hx.symm
      simp only [Instr.findNow, vOf, Instr.sameNow, if_true, hb]
      unfold atV
      rw [if_pos hx]; rfl
    · have hb : (n == p.1) = false := by rw [beq_eq_false_iff_ne]; exact fun e => hx e.symm
      have h := vfind (n := n) l (k + 1) (j + 1)
      simp only [Instr.findNow, vOf, Instr.sameNow, if_true, hb]
      unfold atV
      rw [if_neg hx]
      refine Eq.trans h ?_
      cases atV l n with
      | none => rfl
      | some i =>
        simp only [Option.map_some]
        rw [show j + 1 + i = j + (i + 1) by omega]
        rfl
section
variable {P : Program} {w0 w : World} {X : List Nat} {L : List (Nat × Obj)} {l : Fr} {d : Option Tmp} {ty : TypeId} {pos : String} {after : Array Edge} {g : Option (Nat × Bool)}
  {x y z : Operand} {T K E : TypeId} {b r : Nat} {ls : List (Int × Value)} {n : Int} {v : Value}
theorem run_getV (hb : w.heap[b]? = some (vmO ls)) : (getObj b).run P w = .ok (.map (vE ls).toArray ls.length) w := by
  have hb' : w.heap[b]? = some (.map (vE ls).toArray ls.length) := hb
  simp [getObj, Sem.run, hb']
theorem run_findV (hk : Und P K (.int .u64)) (w : World) : (Instr.findKey K (.int .u64 n) (vE ls)).run P w = .ok (match atV ls n with
    | none => none
    | some i => some (i, ((ls[i]?).map (·.2)).getD undef)) w := by
  have hf := vfind (n := n) ls 0 0
  have hf' : Instr.findNow (.int .u64) (.int .u64 n) (vE ls) 0 = some (match atV ls n with
    | none => none
    | some i => some (0 + i, ((ls[i]?).map (·.2)).getD undef)) := hf
  cases ha : atV ls n with
  | none => rw [ha] at hf'; simp [Instr.findKey, hk w, hf']
  | some i => rw [ha] at hf'; simp [Instr.findKey, hk w, hf']
theorem m_makeMapV (H : St w0 X w L) : ∃ w' b, (execOp (evl l) ⟨d, .makeMap T none, ty, pos, after, g⟩).run P w = .ok (.value (.map (some b))) w' ∧ St w0 X w' ((b, vmO []) :: L) := by
  refine ⟨_, w.heap.size, ?_, H.alloc (vmO [])⟩
  simp [execOp, Instr.makeMap, vmO, vE]
theorem m_mapUpdateV (H : St w0 X w L) (k : Nat) (hu : Und P T (.map K E)) (hk : Und P K (.int .u64)) (hx : evl l x = .map (some b)) (hy : evl l y = .int .u64 n) (hv : evl l z = v) (hL : L[k]? = some (b, vmO ls)) :
    ∃ w', (execOp (evl l) ⟨d, .mapUpdate T x y z, ty, pos, after, g⟩).run P w = .ok .skip w' ∧ St w0 X w' (L.set k (b, vmO (putV ls n v))) := by
  have hb := H.at k hL
  have hf := run_findV (P := P) (n := n) (ls := ls) hk w
  refine ⟨setBlock w b (vmO (putV ls n v)), ?_, H.setB k hL⟩
  have hset := run_setMap (P := P) (o' := vmO (putV ls n v)) hb
  cases ha : atV ls n with
  | some i =>
    rw [ha] at hf
    obtain ⟨u, hu2⟩ := atV_some ha
    have hm := vE_at hu2
    have hp : putV ls n v = ls.set i (n, v) := by unfold putV; rw [ha]
    have he : (vE ls).modify i (fun e => { key := .int .u64 n, val := v, born := e.born }) = vE (putV ls n v) := by
      rw [hp]
      apply List.ext_getElem?
      intro j
      rw [List.getElem?_modify]
      by_cases hj : i = j
      · subst hj
        have hil : i < ls.length := by
          rcases Nat.lt_or_ge i ls.length with h' | h'
          · exact h'
          · rw [List.getElem?_eq_none h'] at hu2; cases hu2
        have h2 : (ls.set i (n, v))[i]? = some (n, v) := by rw [List.getElem?_set, if_pos rfl, if_pos hil]
        rw [hm, vE_at h2]; simp
      · have h2 : (ls.set i (n, v))[j]? = ls[j]? := by rw [List.getElem?_set, if_neg hj]
        cases hl : ls[j]? with
        | none =>
          have l1 : (vE ls)[j]? = none := by simp [vE, List.getElem?_map, List.getElem?_zipIdx, hl]
          have l2 : (vE (ls.set i (n, v)))[j]? = none := by simp [vE, List.getElem?_map, List.getElem?_zipIdx, h2, hl]
          rw [l1, l2]; rfl
        | some p => rw [vE_at hl, vE_at (h2.trans hl)]; simp [hj]
    have hs : Instr.sameBits 10000 (.int .u64 n) (.int .u64 n) = true := by simp [Instr.sameBits]
    have hks : (Instr.keyThatStays (.int .u64 n) (.int .u64 n)).run P w = .ok (.int .u64 n) w := by simp [Instr.keyThatStays, hs]
    have hlen : (putV ls n v).length = ls.length := by rw [hp, List.length_set]
    simp only [vmO, hlen] at hset ⊢
    simp [execOp, Instr.mapUpdate, hu w, hx, hy, hv, run_getV hb, run_check hk, hf, hm, hks]
    rw [he, hset]; rfl
  | none =>
    rw [ha] at hf
    have hp : putV ls n v = ls ++ [(n, v)] := by unfold putV; rw [ha]
    rw [hp] at hset ⊢
    simp only [vmO, vE_snoc, List.length_append, List.length_singleton] at hset
    simp [execOp, Instr.mapUpdate, hu w, hx, hy, hv, run_getV hb, vmO, run_check hk, hf, vE_snoc]
    rw [hset]; rfl
/-! ### Ranging over it -/
theorem m_rangeV (H : St w0 X w L) (hu : Und P T (.map K E)) (hx : evl l x = .map (some b)) (hb : w.heap[b]? = some (vmO ls)) :
    ∃ w' r, (execOp (evl l) ⟨d, .range T x, ty, pos, after, g⟩).run P w = .ok (.value (.pointer (some ⟨r, 0, none⟩))) w' ∧ St w0 X w' ((r, vitO b ls []) :: L) := by
  refine ⟨_, w.heap.size, ?_, H.alloc (vitO b ls [])⟩
  simp [execOp, Instr.range, hu w, hx, run_getV hb, vitO]
theorem m_nextV (H : St w0 X w L) (k : Nat) {seen : List Nat} (hx : evl l x = .pointer (some ⟨r, 0, none⟩)) (hL : L[k]? = some (r, vitO b ls seen)) (hb : w.heap[b]? = some (vmO ls)) :
    ∃ v w', (execOp (evl l) ⟨d, .next x false, ty, pos, after, g⟩).run P w = .ok (.value v) w' ∧
      ∃ (more : Bool) (rest : List Value) (seen' : List Nat), v = .tuple (.bool more :: rest).toArray ∧ (more = true → ∃ i p, ls[i]? = some p ∧ i ∉ seen ∧ seen' = seen ++ [i]) ∧ (more = false → ∀ i, i < ls.length → i ∈ seen) ∧ St w0 X w' (L.set k (r, vitO b ls seen')) := by
  have hr := H.at k hL
  have hold : ∀ e ∈ (vE ls).toArray.toList, e.born < ls.length := by
    intro e he
    obtain ⟨i, p, hi, rfl⟩ := vE_mem (by simpa using he)
    rcases Nat.lt_or_ge i ls.length with h' | h'
    · exact h'
    · rw [List.getElem?_eq_none h'] at hi; cases hi
  rcases run_next_at (P := P) w ty r b ls.length ls.length seen.toArray (vE ls).toArray ls.length hr hb hold (Nat.le_refl _) with ⟨hno, hrun⟩ | ⟨e, he, w1, hw1, hrun⟩
  · refine ⟨_, w, ?_, false, [], seen, rfl, (fun h => nomatch h), fun _ i hi => ?_, ?_⟩
    · simp [execOp, hx, hrun]
    · by_cases hs : i ∈ seen
      · exact hs
      · exfalso
        have hm : { key := .int .u64 ls[i].1, val := ls[i].2, born := i } ∈ vE ls := List.mem_of_getElem? (vE_at (List.getElem?_eq_getElem hi))
        have : { key := .int .u64 ls[i].1, val := ls[i].2, born := i } ∈ leftOf (vE ls).toArray seen.toArray := by
          unfold leftOf
          simpa using ⟨hm, hs⟩
        rw [Array.size_eq_zero_iff.1 hno] at this
        simp at this
    · have e : L.set k (r, vitO b ls seen) = L := by
        apply List.ext_getElem?
        intro j
        rw [List.getElem?_set]
        split
        · rename_i hj; subst hj
          split
          · exact hL.symm
          · rename_i h2; rw [List.getElem?_eq_none (by omega)] at hL; cases hL
        · rfl
      rw [e]; exact H
  · have he' : e ∈ vE ls ∧ e.born ∉ seen := by
      unfold leftOf at he
      simpa using he
    obtain ⟨i, p, hi, rfl⟩ := vE_mem he'.1
    refine ⟨_, setBlock w1 r (.mapIter (some b) ls.length (seen.toArray.push i) ls.length), ?_, true, [.int .u64 p.1, p.2], seen ++ [i], rfl, fun _ => ⟨i, p, hi, he'.2, rfl⟩, (fun h => nomatch h), ?_⟩
    · simp [execOp, hx, hrun]
    · have H1 : St w0 X w1 L := by
        rcases hw1 with rfl | rfl
        · exact H
        · exact H.drew (Nat.le_succ _)
      have h2 := H1.setB (o' := vitO b ls (seen ++ [i])) k hL
      have e2 : (vitO b ls (seen ++ [i])) = .mapIter (some b) ls.length (seen.toArray.push i) ls.length := by
        unfold vitO; simp
      rw [← e2]; exact h2
theorem r_entryV {seen : List Nat} {i : Nat} {p : Int × Value} (hx : evl l x = .pointer (some ⟨r, 0, none⟩)) (hr : w.heap[r]? = some (vitO b ls (seen ++ [i]))) (hb : w.heap[b]? = some (vmO ls)) (hi : ls[i]? = some p) :
    (execOp (evl l) ⟨d, .entry x, ty, pos, after, g⟩).run P w = .ok (.value (.tuple [.int .u64 p.1, p.2].toArray)) w := by
  have hm := vE_at hi
  have hr' : w.heap[r]? = some (.mapIter (some b) ls.length (seen.toArray.push i) ls.length) := by
    rw [hr]; unfold vitO; simp
  have hn : ((vE ls).toArray.toList.map (·.born)).Nodup := by
    have := vE_born ls
    simp only [this]
    exact List.nodup_range
  have h := run_entry_at (P := P) w r b ls.length seen.toArray (vE ls).toArray ls.length { key := .int .u64 p.1, val := p.2, born := i } hr' hb (by simpa using List.mem_of_getElem? hm) hn
  simp [execOp, hx, h]
end
end Go.Er


/-
  Cells: their fields, when they may be, how they are read from bytes.
-/
namespace Go.Er
open Go
/-! ### A cell -/
structure Ce where
  kind : Int
  num : Int
  min : Int
  br : Int
  vol : Int
  blk : Int
  ref : Int
  fr : Int
  to : Int
  un : Int
  body : Bd
def ceC (y : Ce) : List Value := [.int .i64 y.kind, .int .u64 y.num, .int .i64 y.min, .int .i64 y.br, .int .i64 y.vol, .int .i64 y.blk, .int .u64 y.ref, .int .i64 y.fr, .int .i64 y.to, .int .i64 y.un, bdV y.body]
def ce0 : Ce := ⟨0, 0, 0, 0, 0, 0, 0, 0, 0, 0, bdZ⟩
def plV (a b c : Int) : List Value := [.int .i64 a, .int .i64 b, .int .i64 c]
theorem ceC_length (y : Ce) : (ceC y).length = 11 := rfl
theorem ceC_td (y : Ce) : ((ceC y).drop 0).take 11 = ceC y := rfl
theorem ceC_place (y : Ce) : ((ceC y).drop (0 + 3)).take 3 = plV y.br y.vol y.blk := rfl
theorem ceC_one (y : Ce) : ∀ v ∈ ceC y, v.oneCell' = true := by
  intro v hv
  simp only [ceC, bdV, List.mem_cons, List.not_mem_nil, or_false] at hv
  rcases hv with rfl | rfl | rfl | rfl | rfl | rfl | rfl | rfl | rfl | rfl | rfl <;> rfl
theorem elCe : Elem ceC 11 := ⟨ceC_length, ceC_one⟩
theorem ceC_sp (x y : Ce) : splice (ceC x) 0 (ceC y) = ceC y := rfl
theorem plV_length (a b c : Int) : (plV a b c).length = 3 := rfl
theorem plV_td (a b c : Int) : ((plV a b c).drop 0).take 3 = plV a b c := rfl
theorem plV_one (a b c : Int) : ∀ v ∈ plV a b c, v.oneCell' = true := by
  intro v hv
  simp only [plV, List.mem_cons, List.not_mem_nil, or_false] at hv
  rcases hv with rfl | rfl | rfl <;> rfl
/-- all fields are -/
def ceEq (a b : Ce) : Prop := a.kind = b.kind ∧ a.num = b.num ∧ a.min = b.min ∧ (a.br = b.br ∧ a.vol = b.vol ∧ a.blk = b.blk) ∧ a.ref = b.ref ∧ a.fr = b.fr ∧ a.to = b.to ∧ a.un = b.un ∧ a.body.b = b.body.b
instance (a b : Ce) : Decidable (ceEq a b) := by unfold ceEq; infer_instance
theorem ceEq.refl (a : Ce) : ceEq a a := ⟨rfl, rfl, rfl, ⟨rfl, rfl, rfl⟩, rfl, rfl, rfl, rfl, rfl⟩
/-- a cell by its fields and its bytes alone -/
structure Cp where
  kind : Int
  num : Int
  min : Int
  br : Int
  vol : Int
  blk : Int
  ref : Int
  fr : Int
  to : Int
  un : Int
  body : List UInt8
def ceP (y : Ce) : Cp := ⟨y.kind, y.num, y.min, y.br, y.vol, y.blk, y.ref, y.fr, y.to, y.un, y.body.b⟩
/-! ### Which fields a kind has -/
def kPl (k : Int) : Bool := decide (1 ≤ k ∧ k ≤ 5)
def kRf (k : Int) : Bool := decide ((1 ≤ k ∧ k ≤ 4) ∨ k = 6 ∨ k = 7)
def kMi (k : Int) : Bool := decide (k = 6)
def kBo (k : Int) : Bool := decide (k = 1 ∨ k = 3)
def kOk (k : Int) : Bool := decide (1 ≤ k ∧ k ≤ 8)
def ptC (a b c d : Bool) : List Value := [.bool a, .bool b, .bool c, .bool d]
theorem ptC_length (a b c d : Bool) : (ptC a b c d).length = 4 := rfl
theorem ptC_td (a b c d : Bool) : ((ptC a b c d).drop 0).take 4 = ptC a b c d := rfl
theorem ptC_one (a b c d : Bool) : ∀ v ∈ ptC a b c d, v.oneCell' = true := by
  intro v hv
  simp only [ptC, List.mem_cons, List.not_mem_nil, or_false] at hv
  rcases hv with rfl | rfl | rfl | rfl <;> rfl
/-! ### When a cell may be -/
def inM (n most : Int) : Prop := 0 ≤ n ∧ n ≤ most
instance (n m : Int) : Decidable (inM n m) := by unfold inM; infer_instance
def thereC (y : Cp) : Prop := inM y.br 15 ∧ inM y.vol 7 ∧ inM y.blk 255
instance (y : Cp) : Decidable (thereC y) := by unfold thereC; infer_instance
def elderC (y : Cp) : Prop := 1 ≤ y.ref ∧ y.ref < y.num
instance (y : Cp) : Decidable (elderC y) := by unfold elderC; infer_instance
def branchC (y : Cp) : Prop := 1 ≤ y.br ∧ y.br < 16
instance (y : Cp) : Decidable (branchC y) := by unfold branchC; infer_instance
def fieldsC (y : Cp) : Prop :=
  if y.kind = 1 then thereC y ∧ y.ref ≤ 1 ∧ y.body.length = 32
  else if y.kind = 2 then thereC y ∧ elderC y
  else if y.kind = 3 then thereC y ∧ elderC y ∧ 1 ≤ y.body.length ∧ y.body.length ≤ 20
  else if y.kind = 4 then branchC y ∧ inM y.vol 15 ∧ y.vol ≠ y.br ∧ y.blk = 0 ∧ elderC y
  else if y.kind = 5 then branchC y ∧ y.vol = 0 ∧ y.blk = 0
  else if y.kind = 6 then 1 ≤ y.ref ∧ y.ref ≤ 65535 ∧ inM y.fr y.to ∧ inM y.to 1073741824 ∧ inM y.un 1073741824
  else if y.kind = 7 then 1 ≤ y.ref ∧ y.ref ≤ 65535
  else True
instance (y : Cp) : Decidable (fieldsC y) := by unfold fieldsC; infer_instance
/-- only what its kind has is told -/
def onlyC (y : Cp) : Prop := (kPl y.kind = false → y.br = 0 ∧ y.vol = 0 ∧ y.blk = 0) ∧ (kRf y.kind = false → y.ref = 0) ∧ (kMi y.kind = false → y.fr = 0 ∧ y.to = 0 ∧ y.un = 0) ∧ (kBo y.kind = false → y.body = [])
instance (y : Cp) : Decidable (onlyC y) := by unfold onlyC; infer_instance
def rightC (y : Cp) : Prop := kOk y.kind = true ∧ onlyC y ∧ 1 ≤ y.num ∧ y.num ≤ 65535 ∧ inM y.min 1073741824 ∧ fieldsC y
instance (y : Cp) : Decidable (rightC y) := by unfold rightC; infer_instance
/-! ### Numbers are taken from bytes -/
def rd (n : Nat) (st : List UInt8 × Bool) : Int × (List UInt8 × Bool) := if st.1.length < n then (0, ([], true)) else (getN (st.1.take n), (st.1.drop n, st.2))
def tk (n : Nat) (st : List UInt8 × Bool) : List UInt8 × (List UInt8 × Bool) := if st.1.length < n then ([], ([], true)) else (st.1.take n, (st.1.drop n, st.2))
def rdI (c : Bool) (n : Nat) (st : List UInt8 × Bool) : Int × (List UInt8 × Bool) := if c = true then rd n st else (0, st)
def tkI (c : Bool) (n : Nat) (st : List UInt8 × Bool) : List UInt8 × (List UInt8 × Bool) := if c = true then tk n st else ([], st)
theorem rd_len (n : Nat) (st : List UInt8 × Bool) : (rd n st).2.1.length ≤ st.1.length := by
  unfold rd
  split
  · exact Nat.zero_le _
  · show (st.1.drop n).length ≤ _; rw [List.length_drop]; omega
theorem tk_len (n : Nat) (st : List UInt8 × Bool) : (tk n st).2.1.length ≤ st.1.length := by
  unfold tk
  split
  · exact Nat.zero_le _
  · show (st.1.drop n).length ≤ _; rw [List.length_drop]; omega
theorem rdI_len (c : Bool) (n : Nat) (st : List UInt8 × Bool) : (rdI c n st).2.1.length ≤ st.1.length := by
  unfold rdI
  split
  · exact rd_len _ _
  · exact Nat.le_refl _
theorem tkI_len (c : Bool) (n : Nat) (st : List UInt8 × Bool) : (tkI c n st).2.1.length ≤ st.1.length := by
  unfold tkI
  split
  · exact tk_len _ _
  · exact Nat.le_refl _
/-- what is read of a cell, and what is left; it may be short, or no cell -/
def cellF (bs : List UInt8) : Cp × (List UInt8 × Bool) :=
  let a := rd 1 (bs, false)
  let b := rd 2 a.2
  let c := rd 4 b.2
  let p1 := rdI (kPl a.1) 1 c.2
  let p2 := rdI (kPl a.1) 1 p1.2
  let p3 := rdI (kPl a.1) 2 p2.2
  let f := rdI (kRf a.1) 2 p3.2
  let m1 := rdI (kMi a.1) 4 f.2
  let m2 := rdI (kMi a.1) 4 m1.2
  let m3 := rdI (kMi a.1) 4 m2.2
  let l := rdI (kBo a.1) 1 m3.2
  let o := tkI (kBo a.1) l.1.toNat l.2
  (⟨a.1, b.1, c.1, p1.1, p2.1, p3.1, f.1, m1.1, m2.1, m3.1, o.1⟩, o.2)
/-- the cell with which bytes begin, and what is left -/
def decF (bs : List UInt8) : Option (Cp × List UInt8) :=
  if bs = [] then none else if kOk (rd 1 (bs, false)).1 = false then none else if (cellF bs).2.2 = true then none else if rightC (cellF bs).1 then some ((cellF bs).1, (cellF bs).2.1) else none
end Go.Er


/-
  A reader of bytes; structs of three whole numbers.
-/
namespace Go.Er
open Go
section
variable {w w0 w1 : World} {a : Option Addr} {bs : List UInt8} {c n : Nat}
theorem brow_drop (h : BRow w a bs) (hc : bs.length ≤ c) (n : Nat) : BRow w (cutA a 1 c n) (bs.drop n) := by
  intro hx
  rw [List.length_drop] at hx
  obtain ⟨b, off, pre, post, T, fz, rfl, hb, hp⟩ := h (by omega)
  have e : bC bs = bC (bs.take n) ++ bC (bs.drop n) := by unfold bC; rw [← List.map_append, List.take_append_drop]
  refine ⟨b, off + n * 1, pre ++ bC (bs.take n), post, T, fz, cutA_some (by omega), ?_, ?_⟩
  · rw [e] at hb
    rw [hb]; simp
  · rw [List.length_append, hp]; simp [bC]; omega
theorem brow_nil (w : World) (a : Option Addr) : BRow w a [] := fun h => absurd h (Nat.lt_irrefl _)
/-- where a reader stands behind so many bytes -/
def ra (a : Option Addr) (c n : Nat) (st : List UInt8 × Bool) : Option Addr := if st.1.length < n then none else cutA a 1 c n
def rc (c n : Nat) (st : List UInt8 × Bool) : Nat := if st.1.length < n then 0 else c - n
/-- what a reader has may be read -/
def RdK (w : World) (a : Option Addr) (st : List UInt8 × Bool) (c : Nat) : Prop := BRow w a st.1 ∧ st.1.length ≤ c ∧ st.1.length ≤ 1000000
theorem RdK.rd {st : List UInt8 × Bool} (h : RdK w a st c) (n : Nat) : RdK w (ra a c n st) (rd n st).2 (rc c n st) := by
  obtain ⟨h1, h2, h3⟩ := h
  unfold ra rc Go.Er.rd
  by_cases hl : st.1.length < n
  · rw [if_pos hl, if_pos hl, if_pos hl]
    exact ⟨brow_nil _ _, Nat.le_refl _, Nat.zero_le _⟩
  · rw [if_neg hl, if_neg hl, if_neg hl]
    refine ⟨brow_drop h1 h2 n, ?_, ?_⟩
    · show (st.1.drop n).length ≤ _; rw [List.length_drop]; omega
    · show (st.1.drop n).length ≤ _; rw [List.length_drop]; omega
theorem RdK.tk {st : List UInt8 × Bool} (h : RdK w a st c) (n : Nat) : RdK w (ra a c n st) (tk n st).2 (rc c n st) := by
  have e : (Go.Er.tk n st).2 = (Go.Er.rd n st).2 := by unfold Go.Er.tk Go.Er.rd; split <;> rfl
  rw [e]; exact h.rd n
end
structure TripT (P : Program) (T : TypeId) : Prop where
  und : P.underlying T = some (.struct (P.fieldsOf T))
  std : P.stoodInHeld T = false
  grd : P.eqGuardType P.depth T = false
  fs : ∃ (f0 f1 f2 : Field), (P.fieldsOf T).toList = [f0, f1, f2] ∧ f0.name ≠ "_" ∧ f1.name ≠ "_" ∧ f2.name ≠ "_" ∧ f0.offset = 0 ∧ f1.offset = 1 ∧ f2.offset = 2 ∧ P.underlying f0.type = some (.int .i64) ∧ P.underlying f1.type = some (.int .i64) ∧ P.underlying f2.type = some (.int .i64) ∧ IsAgg P f0.type false ∧ IsAgg P f1.type false ∧ IsAgg P f2.type false
section
variable {P : Program} {w : World} {T : TypeId} {l : Fr} {x y : Operand} {T' : TypeId} {d : Option Tmp} {ty : TypeId} {pos : String} {after : Array Edge} {g : Option (Nat × Bool)}
theorem trip_eq (h : TripT P T) (a b c a' b' c' : Int) : (Op.equalIn 10000 T (.agg (plV a b c).toArray) (.agg (plV a' b' c').toArray)).run P w = .ok (decide (a = a' ∧ b = b' ∧ c = c')) w := by
  rw [run_equalIn_agg w 9999 T _ _ h.und h.std]
  obtain ⟨f0, f1, f2, hl, n0, n1, n2, o0, o1, o2, u0, u1, u2, a0, a1, a2⟩ := h.fs
  have p0 : ∀ p q r : Int, (part f0.type (plV p q r).toArray f0.offset).run P w = .ok (.int .i64 p) w := fun p q r => by
    rw [o0]; simp [part, a0 w, plV]
  have p1 : ∀ p q r : Int, (part f1.type (plV p q r).toArray f1.offset).run P w = .ok (.int .i64 q) w := fun p q r => by
    rw [o1]; simp [part, a1 w, plV]
  have p2 : ∀ p q r : Int, (part f2.type (plV p q r).toArray f2.offset).run P w = .ok (.int .i64 r) w := fun p q r => by
    rw [o2]; simp [part, a2 w, plV]
  have q0 := run_equalIn_int (P := P) w 9998 f0.type .i64 .i64 a a' u0
  have q1 := run_equalIn_int (P := P) w 9998 f1.type .i64 .i64 b b' u1
  have q2 := run_equalIn_int (P := P) w 9998 f2.type .i64 .i64 c c' u2
  rw [hl]
  simp only [Op.eqFields, if_pos n0, if_pos n1, if_pos n2, Sem.run_bind, p0, p1, p2, Result.andThen_ok, q0, q1, q2, Sem.run_ite, Sem.run_pure]
  by_cases h1 : a = a'
  · by_cases h2 : b = b'
    · by_cases h3 : c = c' <;> simp [h1, h2, h3]
    · simp [h1, h2]
  · simp [h1]
theorem r_eqlTr {a b c a' b' c' : Int} (h : TripT P T) (hx : evl l x = .agg (plV a b c).toArray) (hy : evl l y = .agg (plV a' b' c').toArray) : (execOp (evl l) ⟨d, .binOp .eql T x y T', ty, pos, after, g⟩).run P w = .ok (.value (.bool (decide (a = a' ∧ b = b' ∧ c = c')))) w := by
  simp only [execOp, hx, hy, Sem.run_bind, run_eqGuard_agg w .eql T x y _ _ h.grd, Result.andThen_ok, run_eql_struct, trip_eq h, Sem.run_pure]
end
theorem fieldsC_1 {y : Cp} (h : y.kind = 1) : fieldsC y ↔ thereC y ∧ y.ref ≤ 1 ∧ y.body.length = 32 := by unfold fieldsC; rw [if_pos h]
theorem fieldsC_2 {y : Cp} (h : y.kind = 2) : fieldsC y ↔ thereC y ∧ elderC y := by unfold fieldsC; rw [if_neg (by omega), if_pos h]
theorem fieldsC_3 {y : Cp} (h : y.kind = 3) : fieldsC y ↔ thereC y ∧ elderC y ∧ 1 ≤ y.body.length ∧ y.body.length ≤ 20 := by unfold fieldsC; rw [if_neg (by omega), if_neg (by omega), if_pos h]
theorem fieldsC_4 {y : Cp} (h : y.kind = 4) : fieldsC y ↔ branchC y ∧ inM y.vol 15 ∧ y.vol ≠ y.br ∧ y.blk = 0 ∧ elderC y := by unfold fieldsC; rw [if_neg (by omega), if_neg (by omega), if_neg (by omega), if_pos h]
theorem fieldsC_5 {y : Cp} (h : y.kind = 5) : fieldsC y ↔ branchC y ∧ y.vol = 0 ∧ y.blk = 0 := by unfold fieldsC; rw [if_neg (by omega), if_neg (by omega), if_neg (by omega), if_neg (by omega), if_pos h]
theorem fieldsC_6 {y : Cp} (h : y.kind = 6) : fieldsC y ↔ 1 ≤ y.ref ∧ y.ref ≤ 65535 ∧ inM y.fr y.to ∧ inM y.to 1073741824 ∧ inM y.un 1073741824 := by unfold fieldsC; rw [if_neg (by omega), if_neg (by omega), if_neg (by omega), if_neg (by omega), if_neg (by omega), if_pos h]
theorem fieldsC_7 {y : Cp} (h : y.kind = 7) : fieldsC y ↔ 1 ≤ y.ref ∧ y.ref ≤ 65535 := by unfold fieldsC; rw [if_neg (by omega), if_neg (by omega), if_neg (by omega), if_neg (by omega), if_neg (by omega), if_neg (by omega), if_pos h]
theorem fieldsC_8 {y : Cp} (h1 : y.kind ≠ 1) (h2 : y.kind ≠ 2) (h3 : y.kind ≠ 3) (h4 : y.kind ≠ 4) (h5 : y.kind ≠ 5) (h6 : y.kind ≠ 6) (h7 : y.kind ≠ 7) : fieldsC y := by
  unfold fieldsC; rw [if_neg h1, if_neg h2, if_neg h3, if_neg h4, if_neg h5, if_neg h6, if_neg h7]; trivial
/-- a cell with the fields of its kind alone -/
def onlyF (y : Ce) : Ce := ⟨y.kind, y.num, y.min, if kPl y.kind = true then y.br else 0, if kPl y.kind = true then y.vol else 0, if kPl y.kind = true then y.blk else 0, if kRf y.kind = true then y.ref else 0,
  if kMi y.kind = true then y.fr else 0, if kMi y.kind = true then y.to else 0, if kMi y.kind = true then y.un else 0, if kBo y.kind = true then y.body else bdZ⟩
set_option linter.unusedSimpArgs false in
theorem onlyF_eq (y : Ce) : ceEq y (onlyF y) ↔ onlyC (ceP y) := by
  unfold ceEq onlyC onlyF ceP
  cases h1 : kPl y.kind <;> cases h2 : kRf y.kind <;> cases h3 : kMi y.kind <;> cases h4 : kBo y.kind <;> simp [h1, h2, h3, h4, bdZ, and_assoc]
/-! ### The cell that Right makes, step by step -/
def oD0 (y : Ce) : Ce := ⟨y.kind, y.num, y.min, 0, 0, 0, 0, 0, 0, 0, bdZ⟩
def oD1 (y : Ce) : Ce := { oD0 y with br := if kPl y.kind = true then y.br else 0, vol := if kPl y.kind = true then y.vol else 0, blk := if kPl y.kind = true then y.blk else 0 }
def oD2 (y : Ce) : Ce := { oD1 y with ref := if kRf y.kind = true then y.ref else 0 }
def oD3 (y : Ce) : Ce := { oD2 y with fr := if kMi y.kind = true then y.fr else 0, to := if kMi y.kind = true then y.to else 0, un := if kMi y.kind = true then y.un else 0 }
theorem oD1_no {y : Ce} (h : kPl y.kind = false) : oD1 y = oD0 y := by unfold oD1 oD0; simp [h]
theorem oD2_no {y : Ce} (h : kRf y.kind = false) : oD2 y = oD1 y := by unfold oD2 oD1 oD0; simp [h]
theorem oD3_no {y : Ce} (h : kMi y.kind = false) : oD3 y = oD2 y := by unfold oD3 oD2 oD1 oD0; simp [h]
theorem oD4_no {y : Ce} (h : kBo y.kind = false) : onlyF y = oD3 y := by unfold onlyF oD3 oD2 oD1 oD0; simp [h]
theorem oD1_yes {y : Ce} (h : kPl y.kind = true) : splice (ceC (oD0 y)) 3 (plV y.br y.vol y.blk) = ceC (oD1 y) := by unfold oD1; simp only [h, if_true]; rfl
theorem oD2_yes {y : Ce} (h : kRf y.kind = true) : (ceC (oD1 y)).set 6 (.int .u64 y.ref) = ceC (oD2 y) := by unfold oD2; simp only [h, if_true]; rfl
theorem oD3_yes {y : Ce} (h : kMi y.kind = true) : (((ceC (oD2 y)).set 7 (.int .i64 y.fr)).set 8 (.int .i64 y.to)).set 9 (.int .i64 y.un) = ceC (oD3 y) := by unfold oD3; simp only [h, if_true]; rfl
theorem oD4_yes {y : Ce} (h : kBo y.kind = true) : (ceC (oD3 y)).set 10 (bdV y.body) = ceC (onlyF y) := by unfold onlyF; simp only [h, if_true]; rfl
theorem onlyF_row {w : World} {y : Ce} (h : BRow w y.body.a y.body.b) : BRow w (onlyF y).body.a (onlyF y).body.b := by
  show BRow w (if kBo y.kind = true then y.body else bdZ).a (if kBo y.kind = true then y.body else bdZ).b
  split
  · exact h
  · exact brow_nil _ _
section
variable {w0 w w' : World} {X : List Nat} {A F F' N : List (Nat × Obj)}
end
section
variable {P : Program} {w : World} {l : List Value} {v1 v2 v3 : Value} {fn : Func} {r1 r2 r3 : ResultVar}
end
end Go.Er


/-
  Rows that stay beside a log that is turned.
-/
namespace Go.Er
open Go
section
variable {w0 w w' : World} {X : List Nat} {A N N2 L No : List (Nat × Obj)} {E : TypeId} {b : Nat} {o : Obj} {a : Option Addr} {cap : Nat}
end
theorem LogN.F {E : TypeId} {fG : FuncId} {TC TL : TypeId} {ba bb bl q : Nat} {x : LS} {N : List (Nat × Obj)} (h : LogN E fG TC TL ba bb bl x q N) : LogF x := by
  obtain ⟨_,_,_,_,_,_,_,_, hF⟩ := h
  exact hF
theorem LogN.mono {E : TypeId} {fG : FuncId} {TC TL : TypeId} {ba bb bl q q' : Nat} {x : LS} {N : List (Nat × Obj)} (h : LogN E fG TC TL ba bb bl x q N) (hq : q ≤ q') : LogN E fG TC TL ba bb bl x q' N := by
  obtain ⟨bm, cs, bu, T, T2, Nm, rfl, hm, hF⟩ := h
  obtain ⟨ma, mb, bg, cs', bp, lf, ac, nc, cc, T', Tp, Na, Nb, rfl, hA, hB, hl⟩ := hm
  exact ⟨bm, cs, bu, T, T2, _, rfl, ⟨ma, mb, bg, cs', bp, lf, ac, nc, cc, T', Tp, Na, Nb, rfl, hA.mono hq, hB.mono hq, hl⟩, hF⟩
end Go.Er


/-
  Sorting rows of any elements: their cells; heaps; insertion in part.
-/
namespace Go.Er
open Go
section
variable {α : Type} {f : α → List Value} {sz : Nat}
end
section
variable {α : Type} {d : α} {key : α → Int}
variable (d key) in
/-- a heap: no child is greater than its parent -/
def Hp (a lo hi : Nat) (ys : List α) : Prop := ∀ p c, lo ≤ p → (c = 2 * p + 1 ∨ c = 2 * p + 2) → c < hi → kk d key ys (a + c) ≤ kk d key ys (a + p)
variable (d key) in
/-- a heap, but for number r, which is on its way down -/
structure HpX (a lo hi r : Nat) (ys : List α) : Prop where
  all : ∀ p c, lo ≤ p → p ≠ r → (c = 2 * p + 1 ∨ c = 2 * p + 2) → c < hi → kk d key ys (a + c) ≤ kk d key ys (a + p)
  over : ∀ p c, lo ≤ p → (r = 2 * p + 1 ∨ r = 2 * p + 2) → (c = 2 * r + 1 ∨ c = 2 * r + 2) → c < hi → kk d key ys (a + c) ≤ kk d key ys (a + p)
  lor : lo ≤ r
theorem Hp.start {a lo hi : Nat} {ys : List α} (h : Hp d key a (lo + 1) hi ys) : HpX d key a lo hi lo ys :=
  ⟨fun p c h1 h2 h3 h4 => h p c (by omega) h3 h4, fun p c h1 h2 => by omega, Nat.le_refl _⟩
theorem HpX.step {a lo hi r ch : Nat} {ys : List α} (h : HpX d key a lo hi r ys) (hc : ch = 2 * r + 1 ∨ ch = 2 * r + 2) (hch : ch < hi) (hl : a + hi ≤ ys.length)
    (hmx : ∀ c, (c = 2 * r + 1 ∨ c = 2 * r + 2) → c < hi → kk d key ys (a + c) ≤ kk d key ys (a + ch)) (hlt : kk d key ys (a + r) < kk d key ys (a + ch)) : HpX d key a lo hi ch (swp2 d ys (a + r) (a + ch)) := by
  have hlo := h.lor
  have hg := swp2_get d ys (i := a + r) (j := a + ch) (by omega) (by omega)
  have g : ∀ p, kk d key (swp2 d ys (a + r) (a + ch)) p = if p = a + ch then kk d key ys (a + r) else if p = a + r then kk d key ys (a + ch) else kk d key ys p := by
    intro p; show key _ = _; rw [hg]; split
    · rfl
    · split <;> rfl
  refine ⟨fun p c h1 h2 h3 h4 => ?_, fun p c h1 h2 h3 h4 => ?_, by omega⟩
  · rw [g, g]
    by_cases hp : p = r
    · subst hp
      rw [if_neg (show ¬ a + p = a + ch by omega), if_pos (rfl : a + p = a + p)]
      by_cases hcc : c = ch
      · rw [if_pos (by omega)]; exact Int.le_of_lt hlt
      · rw [if_neg (by omega), if_neg (by omega)]; exact hmx c h3 h4
    · rw [if_neg (show ¬ a + p = a + ch by omega), if_neg (show ¬ a + p = a + r by omega)]
      by_cases hcr : c = r
      · subst hcr
        rw [if_neg (by omega), if_pos rfl]
        exact h.over p ch h1 h3 hc hch
      · rw [if_neg (by omega), if_neg (by omega)]; exact h.all p c h1 hp h3 h4
  · have hpr : p = r := by omega
    subst hpr
    rw [g, g, if_neg (show ¬ a + c = a + ch by omega), if_neg (show ¬ a + c = a + p by omega), if_neg (show ¬ a + p = a + ch by omega), if_pos (rfl : a + p = a + p)]
    exact h.all ch c (by omega) (by omega) h3 h4
theorem HpX.leaf {a lo hi r : Nat} {ys : List α} (h : HpX d key a lo hi r ys) (hr : hi ≤ 2 * r + 1) : Hp d key a lo hi ys := by
  intro p c h1 h2 h3
  exact h.all p c h1 (by omega) h2 h3
theorem HpX.done {a lo hi r ch : Nat} {ys : List α} (h : HpX d key a lo hi r ys) (hmx : ∀ c, (c = 2 * r + 1 ∨ c = 2 * r + 2) → c < hi → kk d key ys (a + c) ≤ kk d key ys (a + ch)) (hle : ¬ kk d key ys (a + r) < kk d key ys (a + ch)) : Hp d key a lo hi ys := by
  intro p c h1 h2 h3
  by_cases hp : p = r
  · subst hp
    have := hmx c h2 h3
    omega
  · exact h.all p c h1 hp h2 h3
theorem Hp.leaves {a hi lo : Nat} {ys : List α} (h : hi ≤ 2 * lo + 1) : Hp d key a lo hi ys := fun p c h1 h2 h3 => by omega
/-- the top of a heap is the greatest -/
theorem Hp.top {a hi : Nat} {ys : List α} (h : Hp d key a 0 hi ys) : ∀ p, p < hi → kk d key ys (a + p) ≤ kk d key ys a := by
  intro p
  induction p using Nat.strongRecOn with
  | _ p ih =>
    intro hp
    by_cases h0 : p = 0
    · subst h0; exact Int.le_refl _
    · have h1 := h ((p - 1) / 2) p (Nat.zero_le _) (by omega) hp
      have h2 := ih ((p - 1) / 2) (by omega) (by omega)
      omega
variable (d key) in
/-- a heap ahead, in order behind -/
structure HpS (a z i : Nat) (ys : List α) : Prop where
  hp : Hp d key a 0 i ys
  srt : Srt d key (a + i) z ys
  le : ∀ p q, p < i → i ≤ q → a + q < z → kk d key ys (a + p) ≤ kk d key ys (a + q)
theorem HpS.start {a z i : Nat} {ys : List α} (h : Hp d key a 0 i ys) (hz : z = a + i) : HpS d key a z i ys :=
  ⟨h, fun p q h1 h2 h3 => by omega, fun p q h1 h2 h3 => by omega⟩
/-- the greatest goes behind: what is left is a heap but for its top -/
theorem HpS.swap {a z i : Nat} {ys : List α} (h : HpS d key a z (i + 1) ys) (hl : z ≤ ys.length) (hz : a + i < z) : Hp d key a 1 i (swp2 d ys a (a + i)) ∧ Srt d key (a + i) z (swp2 d ys a (a + i)) ∧ ∀ p q, p < i → i ≤ q → a + q < z → kk d key (swp2 d ys a (a + i)) (a + p) ≤ kk d key (swp2 d ys a (a + i)) (a + q) := by
  have hg := swp2_get d ys (i := a) (j := a + i) (by omega) (by omega)
  have g : ∀ p, kk d key (swp2 d ys a (a + i)) p = if p = a + i then kk d key ys a else if p = a then kk d key ys (a + i) else kk d key ys p := by
    intro p; show key _ = _; rw [hg]; split
    · rfl
    · split <;> rfl
  refine ⟨fun p c h1 h2 h3 => ?_, fun p q h1 h2 h3 => ?_, fun p q h1 h2 h3 => ?_⟩
  · rw [g, g, if_neg (by omega), if_neg (by omega), if_neg (by omega), if_neg (by omega)]
    exact h.hp p c (Nat.zero_le _) h2 (by omega)
  · rw [g, g, if_neg (show ¬ q = a + i by omega), if_neg (show ¬ q = a by omega)]
    by_cases hp : p = a + i
    · rw [if_pos hp]
      have := h.le 0 (q - a) (by omega) (by omega) (by omega)
      rw [Nat.add_zero, show a + (q - a) = q by omega] at this
      exact this
    · rw [if_neg hp, if_neg (by omega)]; exact h.srt p q (by omega) h2 h3
  · rw [g, g]
    by_cases hq : q = i
    · subst hq
      rw [if_neg (show ¬ a + p = a + q by omega), if_pos (rfl : a + q = a + q)]
      by_cases hp : p = 0
      · subst hp
        rw [if_pos (by omega)]; exact h.hp.top q (by omega)
      · rw [if_neg (by omega)]; exact h.hp.top p (by omega)
    · rw [if_neg (show ¬ a + p = a + i by omega), if_neg (show ¬ a + q = a + i by omega), if_neg (show ¬ a + q = a by omega)]
      split
      · exact h.le i q (by omega) (by omega) h3
      · exact h.le p q (by omega) (by omega) h3
theorem HpS.next {a z i : Nat} {ys zs : List α} (hs : Srt d key (a + i) z ys) (hle : ∀ p q, p < i → i ≤ q → a + q < z → kk d key ys (a + p) ≤ kk d key ys (a + q)) (k : Sw d a (a + i) ys zs) (hh : Hp d key a 0 i zs) : HpS d key a z i zs := by
  have ho : ∀ q, a + i ≤ q → kk d key zs q = kk d key ys q := fun q hq => by show key _ = key _; rw [k.out (.inr hq)]
  refine ⟨hh, fun p q h1 h2 h3 => ?_, fun p q h1 h2 h3 => ?_⟩
  · rw [ho p h1, ho q (by omega)]; exact hs p q h1 h2 h3
  · rw [ho (a + q) (by omega)]
    exact k.all (P := fun x => key x ≤ kk d key ys (a + q)) (fun r r1 r2 => by
      have := hle (r - a) q (by omega) h2 h3
      rwa [show a + (r - a) = r by omega] at this) (a + p) (by omega) (by omega)
theorem HpS.fin {a z : Nat} {ys : List α} (h : HpS d key a z 0 ys) : Srt d key a z ys := h.srt
theorem Srt.cut {a i i' : Nat} {ys : List α} (h : Srt d key a i ys) (hi : i' ≤ i) : Srt d key a i' ys := fun p q h1 h2 h3 => h p q h1 h2 (by omega)
theorem Srt.off {a i p q : Nat} {ys : List α} (h : Srt d key a i ys) (hp : i ≤ p) (hq : i ≤ q) (hpl : p < ys.length) (hql : q < ys.length) : Srt d key a i (swp2 d ys p q) := by
  intro m n h1 h2 h3
  have hg := swp2_get d ys hpl hql
  show key _ ≤ key _
  rw [hg m, hg n, if_neg (by omega), if_neg (by omega), if_neg (by omega), if_neg (by omega)]
  exact h m n h1 h2 h3
/-- a pair is put in order: what stands ahead is in order but for its last one -/
theorem Srt.pair {a i : Nat} {ys : List α} (h : Srt d key a i ys) (hi : a < i) (hl : i < ys.length) (hlt : kk d key ys i < kk d key ys (i - 1)) : Ins d key a i (i - 1) (swp2 d ys i (i - 1)) :=
  (Ins.start h).step hi (Nat.le_refl _) hl hlt
end
end Go.Er


/-
  What is found in a log's slots: elements, what a log takes into account, what Open tells.
-/
namespace Go.Er
open Go
/-! ### What is found -/
structure FdL where
  at_ : Int
  gen : Int
  bd : Bd
  ok : 0 ≤ at_ ∧ at_ < 4096 ∧ 0 ≤ gen ∧ gen < 18446744073709551616
/-! ### Both devices' sectors, if they may stand there -/
/-! ### What a log takes into account -/
def takeL (x : LS) (s t gn : Int) : LS :=
  if x.known < gn ∨ x.head < 0 ∨ (gn = x.known ∧ s = x.head) then { x with gens := if x.gens.getD s.toNat 0 ≤ gn then x.gens.set s.toNat gn else x.gens, known := gn, head := s, slot := t + 1 }
  else { x with gens := if x.gens.getD s.toNat 0 ≤ gn then x.gens.set s.toNat gn else x.gens }
/-- nothing is known, as long as there is no head -/
def LogO (x : LS) : Prop := LogF x ∧ (x.head < 0 → x.known = 0)
theorem LogO.take {x : LS} (h : LogO x) {s t gn : Int} (hs0 : 0 ≤ s) (hs1 : s < x.g) (ht0 : 0 ≤ t) (ht1 : t < x.z) (hg0 : 0 ≤ gn) (hg1 : gn < 1000000000) : LogO (takeL x s t gn) := by
  obtain ⟨h, hk⟩ := h
  have hu : ∀ n ∈ (if x.gens.getD s.toNat 0 ≤ gn then x.gens.set s.toNat gn else x.gens), n = gn ∨ n ∈ x.gens := by
    intro n hn
    split at hn
    · rcases List.mem_or_eq_of_mem_set hn with h2 | rfl
      · exact .inr h2
      · exact .inl rfl
    · exact .inr hn
  have hl : ((if x.gens.getD s.toNat 0 ≤ gn then x.gens.set s.toNat gn else x.gens).length : Int) = x.g := by
    have := h.gl
    split
    · rw [List.length_set]; exact this
    · exact this
  have hu6 : U64 (if x.gens.getD s.toNat 0 ≤ gn then x.gens.set s.toNat gn else x.gens) := fun n hn => by
    rcases hu n hn with rfl | h2
    · exact ⟨hg0, by omega⟩
    · exact h.u n h2
  unfold takeL
  split
  · rename_i hc
    refine ⟨⟨h.g0, h.g1, h.z0, h.z1, hl, h.cl, hu6, ⟨by show -1 ≤ s; omega, hs1⟩, ⟨by show 0 ≤ t + 1; omega, by show t + 1 ≤ x.z; omega⟩, ⟨hg0, hg1⟩, fun n hn => ?_⟩, fun hh => absurd hs0 (by have : s < 0 := hh; omega)⟩
    show n ≤ gn
    rcases hu n hn with rfl | h2
    · exact Int.le_refl _
    · have := h.kg n h2
      rcases hc with hc | hc | hc
      · omega
      · have := hk hc; omega
      · omega
  · rename_i hc
    refine ⟨⟨h.g0, h.g1, h.z0, h.z1, hl, h.cl, hu6, h.h, h.s, h.k, fun n hn => ?_⟩, hk⟩
    show n ≤ x.known
    rcases hu n hn with rfl | h2
    · omega
    · exact h.kg n h2
/-- what stays -/
structure SameL (x y : LS) : Prop where
  C : x.C = y.C
  g : x.g = y.g
  z : x.z = y.z
theorem SameL.refl (x : LS) : SameL x x := ⟨rfl, rfl, rfl⟩
theorem SameL.trans {x y z : LS} (h : SameL x y) (k : SameL y z) : SameL x z := ⟨h.C.trans k.C, h.g.trans k.g, h.z.trans k.z⟩
/-- the places rise -/
def RiseL (m : Int) (l : List (Int × Int × List UInt8)) : Prop := l.Pairwise (fun a b => a.1 < b.1) ∧ ∀ a ∈ l, a.1 < m
theorem RiseL.mono {m m' : Int} {l : List (Int × Int × List UInt8)} (h : RiseL m l) (hm : m ≤ m') : RiseL m' l := ⟨h.1, fun a ha => by have := h.2 a ha; omega⟩
theorem RiseL.snoc {m m' : Int} {l : List (Int × Int × List UInt8)} {y : Int × Int × List UInt8} (h : RiseL m l) (h1 : m ≤ y.1) (h2 : y.1 < m') : RiseL m' (l ++ [y]) := by
  refine ⟨List.pairwise_append.2 ⟨h.1, List.pairwise_singleton _ _, fun a ha b hb => ?_⟩, fun a ha => ?_⟩
  · rw [List.mem_singleton.1 hb]
    have := h.2 a ha; omega
  · rcases List.mem_append.1 ha with ha | ha
    · have := h.2 a ha; omega
    · rw [List.mem_singleton.1 ha]; exact h2
/-! ### The bodies that were found -/
def BsN (E : TypeId) (fs : List FdL) (Nb : List (Nat × Obj)) : Prop := ∀ f ∈ fs, ∃ No, (∀ p ∈ No, p ∈ Nb) ∧ RowN 1 E (bC f.bd.b) f.bd.b.length f.bd.a f.bd.c No
theorem BsN.nil {E : TypeId} : BsN E [] [] := fun _ h => nomatch h
theorem BsN.snoc {E : TypeId} {fs : List FdL} {Nb No : List (Nat × Obj)} {f : FdL} (h : BsN E fs Nb) (hf : RowN 1 E (bC f.bd.b) f.bd.b.length f.bd.a f.bd.c No) : BsN E (fs ++ [f]) (No ++ Nb) := by
  intro y hy
  rcases List.mem_append.1 hy with hy | hy
  · obtain ⟨M, h1, h2⟩ := h y hy
    exact ⟨M, fun p hp => List.mem_append_right _ (h1 p hp), h2⟩
  · rw [List.mem_singleton.1 hy]
    exact ⟨No, fun p hp => List.mem_append_left _ hp, hf⟩
theorem BsN.perm {E : TypeId} {fs fs' : List FdL} {Nb : List (Nat × Obj)} (h : BsN E fs Nb) (hp : fs'.Perm fs) : BsN E fs' Nb := fun f hf => h f (hp.mem_iff.1 hf)
theorem BsN.brow {E : TypeId} {fs : List FdL} {Nb L : List (Nat × Obj)} {w0 w : World} {X : List Nat} (h : BsN E fs Nb) (H : St w0 X w L) (hs : ∀ p ∈ Nb, p ∈ L) : ∀ f ∈ fs, BRow w f.bd.a f.bd.b := by
  intro f hf
  obtain ⟨No, h1, h2⟩ := h f hf
  exact h2.browM H (fun p hp => hs p (h1 p hp))
end Go.Er


/-
  The cells of a body.
-/
namespace Go.Er
open Go
/-! ### What is short stays short -/
theorem rd_short {n : Nat} {st : List UInt8 × Bool} (h : st.2 = true) : (rd n st).2.2 = true := by
  unfold rd
  split
  · rfl
  · exact h
theorem rdI_short {c : Bool} {n : Nat} {st : List UInt8 × Bool} (h : st.2 = true) : (rdI c n st).2.2 = true := by
  unfold rdI
  split
  · exact rd_short h
  · exact h
theorem tkI_short {c : Bool} {n : Nat} {st : List UInt8 × Bool} (h : st.2 = true) : (tkI c n st).2.2 = true := by
  unfold tkI tk
  split
  · split
    · rfl
    · exact h
  · exact h
theorem rd_long {n : Nat} {st : List UInt8 × Bool} (h : ¬ (rd n st).2.2 = true) : n ≤ st.1.length ∧ (rd n st).2.1.length + n = st.1.length := by
  unfold rd at h ⊢
  split at h
  · exact absurd rfl h
  · rename_i hl
    rw [if_neg hl]
    refine ⟨by omega, ?_⟩
    show (st.1.drop n).length + n = _
    rw [List.length_drop]; omega
theorem cellF_seven {bs : List UInt8} (h : ¬ (cellF bs).2.2 = true) : (cellF bs).2.1.length + 7 ≤ bs.length := by
  obtain ⟨a, ha⟩ : ∃ a, a = rd 1 (bs, false) := ⟨_, rfl⟩
  obtain ⟨b, hb⟩ : ∃ b, b = rd 2 a.2 := ⟨_, rfl⟩
  obtain ⟨c, hc⟩ : ∃ c, c = rd 4 b.2 := ⟨_, rfl⟩
  obtain ⟨p1, hp1⟩ : ∃ p, p = rdI (kPl a.1) 1 c.2 := ⟨_, rfl⟩
  obtain ⟨p2, hp2⟩ : ∃ p, p = rdI (kPl a.1) 1 p1.2 := ⟨_, rfl⟩
  obtain ⟨p3, hp3⟩ : ∃ p, p = rdI (kPl a.1) 2 p2.2 := ⟨_, rfl⟩
  obtain ⟨f, hf⟩ : ∃ p, p = rdI (kRf a.1) 2 p3.2 := ⟨_, rfl⟩
  obtain ⟨m1, hm1⟩ : ∃ p, p = rdI (kMi a.1) 4 f.2 := ⟨_, rfl⟩
  obtain ⟨m2, hm2⟩ : ∃ p, p = rdI (kMi a.1) 4 m1.2 := ⟨_, rfl⟩
  obtain ⟨m3, hm3⟩ : ∃ p, p = rdI (kMi a.1) 4 m2.2 := ⟨_, rfl⟩
  obtain ⟨l, hl⟩ : ∃ p, p = rdI (kBo a.1) 1 m3.2 := ⟨_, rfl⟩
  obtain ⟨o, ho⟩ : ∃ p, p = tkI (kBo a.1) l.1.toNat l.2 := ⟨_, rfl⟩
  have hcF : (cellF bs).2 = o.2 := by
    subst ho hl hm3 hm2 hm1 hf hp3 hp2 hp1 hc hb ha
    rfl
  rw [hcF] at h ⊢
  have c1 : ¬ c.2.2 = true := fun hx => h (by
    rw [ho]; refine tkI_short ?_
    rw [hl]; refine rdI_short ?_
    rw [hm3]; refine rdI_short ?_
    rw [hm2]; refine rdI_short ?_
    rw [hm1]; refine rdI_short ?_
    rw [hf]; refine rdI_short ?_
    rw [hp3]; refine rdI_short ?_
    rw [hp2]; refine rdI_short ?_
    rw [hp1]; exact rdI_short hx)
  have b1 : ¬ b.2.2 = true := fun hx => c1 (by rw [hc]; exact rd_short hx)
  have a1 : ¬ a.2.2 = true := fun hx => b1 (by rw [hb]; exact rd_short hx)
  have g1 := rd_long (n := 1) (st := (bs, false)) (by rw [← ha]; exact a1)
  have g2 := rd_long (n := 2) (st := a.2) (by rw [← hb]; exact b1)
  have g3 := rd_long (n := 4) (st := b.2) (by rw [← hc]; exact c1)
  rw [← ha] at g1
  rw [← hb] at g2
  rw [← hc] at g3
  have g1' : 1 ≤ bs.length ∧ a.2.1.length + 1 = bs.length := g1
  have k : o.2.1.length ≤ c.2.1.length := by
    rw [ho]; refine Nat.le_trans (tkI_len _ _ _) ?_
    rw [hl]; refine Nat.le_trans (rdI_len _ _ _) ?_
    rw [hm3]; refine Nat.le_trans (rdI_len _ _ _) ?_
    rw [hm2]; refine Nat.le_trans (rdI_len _ _ _) ?_
    rw [hm1]; refine Nat.le_trans (rdI_len _ _ _) ?_
    rw [hf]; refine Nat.le_trans (rdI_len _ _ _) ?_
    rw [hp3]; refine Nat.le_trans (rdI_len _ _ _) ?_
    rw [hp2]; refine Nat.le_trans (rdI_len _ _ _) ?_
    rw [hp1]; exact rdI_len _ _ _
  omega
theorem decF_seven {bs r : List UInt8} {c : Cp} (h : decF bs = some (c, r)) : r.length + 7 ≤ bs.length := by
  unfold decF at h
  split at h
  · cases h
  · split at h
    · cases h
    · split at h
      · cases h
      · rename_i hs
        split at h
        · injection h with h; injection h with _ h
          rw [← h]; exact cellF_seven hs
        · cases h
/-! ### All cells of a body -/
def openK : Nat → List UInt8 → Option (List Cp)
  | 0, _ => some []
  | k + 1, bs => if bs = [] then some [] else match decF bs with
    | none => none
    | some (c, r) => (openK k r).map (c :: ·)
theorem openK_succ (k : Nat) (bs : List UInt8) : openK (k + 1) bs = if bs = [] then some [] else match decF bs with
    | none => none
    | some (c, r) => (openK k r).map (c :: ·) := rfl
theorem openK_fuel : ∀ (k m : Nat) (bs : List UInt8), bs.length ≤ k → bs.length ≤ m → openK k bs = openK m bs
  | 0, 0, _,_,_ => rfl
  | 0, m + 1, bs, h, _ => by
    have e : bs = [] := List.length_eq_zero_iff.1 (by omega)
    subst e; rfl
  | k + 1, 0, bs, _, h => by
    have e : bs = [] := List.length_eq_zero_iff.1 (by omega)
    subst e; rfl
  | k + 1, m + 1, bs, h1, h2 => by
    unfold openK
    by_cases e : bs = []
    · rw [if_pos e, if_pos e]
    · rw [if_neg e, if_neg e]
      cases hd : decF bs with
      | none => rfl
      | some p =>
        obtain ⟨c, r⟩ := p
        have hl := decF_seven hd
        show (openK k r).map _ = (openK m r).map _
        rw [openK_fuel k m r (by omega) (by omega)]
def openL (bs : List UInt8) : Option (List Cp) := openK bs.length bs
theorem openL_nil : openL [] = some [] := rfl
theorem openL_none {bs : List UInt8} (h : bs ≠ []) (hd : decF bs = none) : openL bs = none := by
  unfold openL
  obtain ⟨k, hk⟩ : ∃ k, bs.length = k + 1 := ⟨bs.length - 1, by have := List.length_pos_iff.2 h; omega⟩
  rw [hk, openK_succ, if_neg h, hd]
theorem openL_some {bs r : List UInt8} {c : Cp} (h : bs ≠ []) (hd : decF bs = some (c, r)) : openL bs = (openL r).map (c :: ·) := by
  have hl := decF_seven hd
  unfold openL
  obtain ⟨k, hk⟩ : ∃ k, bs.length = k + 1 := ⟨bs.length - 1, by omega⟩
  rw [hk, openK_succ, if_neg h, hd]
  show (openK k r).map _ = _
  rw [openK_fuel k r.length r (by omega) (Nat.le_refl _)]
/-- so far cells were read -/
def ReadN (bs rest : List UInt8) (ys : List Ce) : Prop := openL bs = (openL rest).map (fun l => ys.map ceP ++ l)
theorem ReadN.start (bs : List UInt8) : ReadN bs bs [] := by
  unfold ReadN
  cases openL bs <;> rfl
theorem ReadN.step {bs rest r : List UInt8} {ys : List Ce} {y : Ce} (h : ReadN bs rest ys) (hne : rest ≠ []) (hd : decF rest = some (ceP y, r)) : ReadN bs r (ys ++ [y]) := by
  unfold ReadN at h ⊢
  rw [h, openL_some hne hd]
  cases openL r with
  | none => rfl
  | some l => simp
theorem ReadN.fin {bs : List UInt8} {ys : List Ce} (h : ReadN bs [] ys) : openL bs = some (ys.map ceP) := by
  unfold ReadN at h
  rw [h, openL_nil]; simp
theorem ReadN.no {bs rest : List UInt8} {ys : List Ce} (h : ReadN bs rest ys) (hne : rest ≠ []) (hd : decF rest = none) : openL bs = none := by
  unfold ReadN at h
  rw [h, openL_none hne hd]; rfl
/-! ### The bodies of cells -/
def CsN (E : TypeId) (ys : List Ce) (Nb : List (Nat × Obj)) : Prop := ∀ y ∈ ys, ∃ No, (∀ p ∈ No, p ∈ Nb) ∧ RowN 1 E (bC y.body.b) y.body.b.length y.body.a y.body.c No
theorem CsN.nil {E : TypeId} : CsN E [] [] := fun _ h => nomatch h
theorem CsN.snoc {E : TypeId} {ys : List Ce} {Nb No : List (Nat × Obj)} {y : Ce} (h : CsN E ys Nb) (hy : RowN 1 E (bC y.body.b) y.body.b.length y.body.a y.body.c No) : CsN E (ys ++ [y]) (No ++ Nb) := by
  intro x hx
  rcases List.mem_append.1 hx with hx | hx
  · obtain ⟨M, h1, h2⟩ := h x hx
    exact ⟨M, fun p hp => List.mem_append_right _ (h1 p hp), h2⟩
  · rw [List.mem_singleton.1 hx]
    exact ⟨No, fun p hp => List.mem_append_left _ hp, hy⟩
theorem CsN.brow {E : TypeId} {ys : List Ce} {Nb L : List (Nat × Obj)} {w0 w : World} {X : List Nat} (h : CsN E ys Nb) (H : St w0 X w L) (hs : ∀ p ∈ Nb, p ∈ L) : ∀ y ∈ ys, BRow w y.body.a y.body.b := by
  intro y hy
  obtain ⟨No, h1, h2⟩ := h y hy
  exact h2.browM H (fun p hp => hs p (h1 p hp))
section
variable {w0 w : World} {X : List Nat} {A M R : List (Nat × Obj)}
theorem St.rot3 (H : St w0 X w (A ++ (M ++ R))) : St w0 X w ((A ++ R) ++ M) := by
  rw [List.append_assoc]
  exact H.perm (List.perm_append_comm.append_left A)
theorem St.unrot3 (H : St w0 X w ((A ++ R) ++ M)) : St w0 X w (A ++ (M ++ R)) := by
  rw [List.append_assoc] at H
  exact H.perm (List.perm_append_comm.append_left A)
end
end Go.Er


/-
  The little cipher of layer 5: what it splits a key to.
-/
namespace Go.Er
open Go
/-- its number, behind so many places -/
def padX (k : Key) (n : Int) : Nat → Int
  | 0 => (((((byt k 0).toNat : Int) + 256 * ((byt k 1).toNat : Int)) + 65536 * ((byt k 2).toNat : Int)) + 7)
  | i + 1 => ((((padX k n i * 6364136223846793005) % 18446744073709551616 + 1442695040888963407) % 18446744073709551616 + n) % 18446744073709551616 + ((byt k i).toNat : Int)) % 18446744073709551616
theorem padX_rng (k : Key) (n : Int) (i : Nat) : 0 ≤ padX k n i ∧ padX k n i < 18446744073709551616 := by
  cases i with
  | zero =>
    have h0 := (byt k 0).toNat_lt
    have h1 := (byt k 1).toNat_lt
    have h2 := (byt k 2).toNat_lt
    simp only [padX]; omega
  | succ i => simp only [padX]; omega
def padB (k : Key) (n : Int) : Key := ⟨(List.range 32).map fun i => UInt8.ofNat (padX k n (i + 1) / 72057594037927936).toNat, by simp⟩
theorem padB_byt (k : Key) (n : Int) {i : Nat} (hi : i < 32) : padX k n (i + 1) / 72057594037927936 = (((padB k n).1.getD i 0).toNat : Int) := by
  obtain ⟨h0, h1⟩ := padX_rng k n (i + 1)
  simp only [padB, List.getD_eq_getElem?_getD, List.getElem?_map, List.getElem?_range hi, Option.map_some, Option.getD_some, UInt8.toNat_ofNat']
  omega
def litL (k : Key) : Key := padB k 1099511627776
def litR (k : Key) : Key := padB k 2199023255552
end Go.Er


/-
  The plain law of chains of cells.
-/
namespace Go.Er
open Go
/-- is a kind a write's? -/
def momK (k : Int) : Bool := decide (k = 1 ∨ k = 2 ∨ k = 3)
/-- what is asked for by its number -/
abbrev Getf := Int → Option Cp
def findP (l : List Cp) (n : Int) : Option Cp := l.find? (fun c => decide (c.num = n))
theorem findP_num {l : List Cp} {n : Int} {c : Cp} (h : findP l n = some c) : c.num = n := by
  have h1 := List.find?_some h
  exact of_decide_eq_true h1
theorem findP_mem {l : List Cp} {n : Int} {c : Cp} (h : findP l n = some c) : c ∈ l := List.mem_of_find?_eq_some h
/-! ### The way down -/
/-- what is wrong with a number's cell, behind so many Refs; 0: nothing -/
def lookF (g : Getf) (has : Int → Bool) (refs : Nat) (n : Int) : Int :=
  match g n with
  | none => 4
  | some c => if momK c.kind = false then 4 else if ¬ rightC c then 3 else if c.kind ≠ 1 ∧ refs = 4 then 16 else if c.kind ≠ 2 ∧ has (2 * n) = false then 10 else 0
def wayF (g : Getf) (has : Int → Bool) : Nat → Nat → Int → List Cp × Int
  | 0, _,_ => ([], 16)
  | f + 1, refs, n =>
    if lookF g has refs n ≠ 0 then ([], lookF g has refs n) else
      match g n with
      | none => ([], 4)
      | some c => if c.kind = 1 then ([c], 0) else (c :: (wayF g has f (refs + 1) c.ref).1, (wayF g has f (refs + 1) c.ref).2)
section
variable {g : Getf} {has : Int → Bool} {f refs : Nat} {n : Int} {c : Cp}
theorem look_none (h : g n = none) : lookF g has refs n = 4 := by unfold lookF; rw [h]
theorem look_some (h : g n = some c) : lookF g has refs n = if momK c.kind = false then 4 else if ¬ rightC c then 3 else if c.kind ≠ 1 ∧ refs = 4 then 16 else if c.kind ≠ 2 ∧ has (2 * n) = false then 10 else 0 := by unfold lookF; rw [h]
theorem look_fine (h : lookF g has refs n = 0) : ∃ c, g n = some c ∧ momK c.kind = true ∧ rightC c ∧ (c.kind = 1 ∨ refs ≠ 4) ∧ (c.kind = 2 ∨ has (2 * n) = true) := by
  cases hg : g n with
  | none => rw [look_none hg] at h; cases h
  | some c =>
    rw [look_some hg] at h
    refine ⟨c, rfl, ?_⟩
    cases h1 : momK c.kind with
    | false => rw [if_pos h1] at h; cases h
    | true =>
      rw [if_neg (by rw [h1]; decide)] at h
      by_cases h2 : rightC c
      · rw [if_neg (fun h => h h2)] at h
        by_cases h3 : c.kind ≠ 1 ∧ refs = 4
        · rw [if_pos h3] at h; cases h
        · rw [if_neg h3] at h
          by_cases h4 : c.kind ≠ 2 ∧ has (2 * n) = false
          · rw [if_pos h4] at h; cases h
          · refine ⟨rfl, h2, ?_, ?_⟩
            · rcases Decidable.em (c.kind = 1) with h5 | h5
              · exact .inl h5
              · exact .inr fun h6 => h3 ⟨h5, h6⟩
            · rcases Decidable.em (c.kind = 2) with h5 | h5
              · exact .inl h5
              · refine .inr ?_
                cases hh : has (2 * n) with
                | true => rfl
                | false => exact absurd ⟨h5, hh⟩ h4
      · rw [if_pos h2] at h; cases h
theorem way_bad (h : lookF g has refs n ≠ 0) : wayF g has (f + 1) refs n = ([], lookF g has refs n) := by
  unfold wayF; rw [if_pos h]
theorem way_full (h : lookF g has refs n = 0) (hg : g n = some c) (hk : c.kind = 1) : wayF g has (f + 1) refs n = ([c], 0) := by
  unfold wayF; rw [if_neg (fun h2 => h2 h), hg]
  show (if c.kind = 1 then _ else _) = _
  rw [if_pos hk]
theorem way_on (h : lookF g has refs n = 0) (hg : g n = some c) (hk : c.kind ≠ 1) : wayF g has (f + 1) refs n = (c :: (wayF g has f (refs + 1) c.ref).1, (wayF g has f (refs + 1) c.ref).2) := by
  rw [wayF, if_neg (fun h2 => h2 h), hg]
  show (if c.kind = 1 then _ else _) = _
  rw [if_neg hk]
theorem look_deep (h : lookF g has 4 n = 0) (hg : g n = some c) : c.kind = 1 := by
  obtain ⟨d, hd, _,_, h3, _⟩ := look_fine h
  rw [hg] at hd
  injection hd with hd
  subst hd
  rcases h3 with h3 | h3
  · exact h3
  · exact absurd rfl h3
end
/-- so far the way was gone -/
def WayI (g : Getf) (has : Int → Bool) (n0 : Int) (ys : List Cp) (n : Int) : Prop := ys.length ≤ 4 ∧ (∀ c ∈ ys, c.kind ≠ 1) ∧ wayF g has 5 0 n0 = (ys ++ (wayF g has (5 - ys.length) ys.length n).1, (wayF g has (5 - ys.length) ys.length n).2)
theorem WayI.start (g : Getf) (has : Int → Bool) (n : Int) : WayI g has n [] n := ⟨Nat.zero_le _, fun _ h => (nomatch h), rfl⟩
section
variable {g : Getf} {has : Int → Bool} {n0 n : Int} {ys : List Cp} {c : Cp}
theorem WayI.bad (h : WayI g has n0 ys n) (hl : lookF g has ys.length n ≠ 0) : wayF g has 5 0 n0 = (ys, lookF g has ys.length n) := by
  obtain ⟨h1, _, h2⟩ := h
  obtain ⟨f, hf⟩ : ∃ f, 5 - ys.length = f + 1 := ⟨4 - ys.length, by omega⟩
  rw [h2, hf, way_bad hl, List.append_nil]
theorem WayI.full (h : WayI g has n0 ys n) (hl : lookF g has ys.length n = 0) (hg : g n = some c) (hk : c.kind = 1) : wayF g has 5 0 n0 = (ys ++ [c], 0) := by
  obtain ⟨h1, _, h2⟩ := h
  obtain ⟨f, hf⟩ : ∃ f, 5 - ys.length = f + 1 := ⟨4 - ys.length, by omega⟩
  rw [h2, hf, way_full hl hg hk]
theorem WayI.on (h : WayI g has n0 ys n) (hl : lookF g has ys.length n = 0) (hg : g n = some c) (hk : c.kind ≠ 1) : WayI g has n0 (ys ++ [c]) c.ref := by
  obtain ⟨h1, h3, h2⟩ := h
  have h4 : ys.length ≠ 4 := fun h5 => by rw [h5] at hl; exact hk (look_deep hl hg)
  obtain ⟨f, hf⟩ : ∃ f, 5 - ys.length = f + 1 := ⟨4 - ys.length, by omega⟩
  refine ⟨by rw [List.length_append]; show ys.length + 1 ≤ 4; omega, ?_, ?_⟩
  · intro d hd
    rcases List.mem_append.1 hd with hd | hd
    · exact h3 d hd
    · rw [List.mem_singleton.1 hd]; exact hk
  · have e : 5 - (ys ++ [c]).length = f := by rw [List.length_append]; show 5 - (ys.length + 1) = f; omega
    have e2 : (ys ++ [c]).length = ys.length + 1 := by rw [List.length_append]; rfl
    rw [h2, hf, way_on hl hg hk, e, e2, List.append_assoc]; rfl
end
/-! ### Blocks -/
abbrev Blk := By 32
def xorB (p : List UInt8) (b : List UInt8) : List UInt8 := List.zipWith (· ^^^ ·) b p
theorem xorB_length {p b : List UInt8} (h : b.length ≤ p.length) : (xorB p b).length = b.length := by unfold xorB; rw [List.length_zipWith]; omega
/-- bytes put upon a block's, from a place on -/
def putAt (b : Blk) (i : Nat) (x : List UInt8) : Blk := if h : i + x.length ≤ 32 then ⟨b.1.take i ++ x ++ b.1.drop (i + x.length), by
  have := b.2
  rw [List.length_append, List.length_append, List.length_take, List.length_drop]; omega⟩ else b
theorem putAt_val {b : Blk} {i : Nat} {x : List UInt8} (h : i + x.length ≤ 32) : (putAt b i x).1 = b.1.take i ++ x ++ b.1.drop (i + x.length) := congrArg (fun q : Blk => q.1) (dif_pos h)
/-- a difference, run by run -/
def runsF : Nat → Nat → List UInt8 → Option (List (Nat × List UInt8))
  | _,_, [] => some []
  | _,_, [_] => none
  | 0, _,_ :: _ :: _ => none
  | f + 1, next, a :: n :: r => if n.toNat < 1 ∨ r.length < n.toNat ∨ a.toNat < next ∨ 32 < a.toNat + n.toNat then none else (runsF f (a.toNat + n.toNat + 1) (r.drop n.toNat)).map ((a.toNat, r.take n.toNat) :: ·)
def runsD (d : List UInt8) : Option (List (Nat × List UInt8)) := if 20 < d.length then none else runsF d.length 0 d
def putAll (b : Blk) (l : List (Nat × List UInt8)) : Blk := l.foldl (fun b p => putAt b p.1 p.2) b
def applyD (b : Blk) (d : List UInt8) : Option Blk := (runsD d).map (putAll b)
theorem runsF_fuel : ∀ (f m next : Nat) (d : List UInt8), d.length ≤ f → d.length ≤ m → runsF f next d = runsF m next d
  | 0, 0, _,_,_,_ => rfl
  | 0, m + 1, next, d, h, _ => by
    have e : d = [] := List.length_eq_zero_iff.1 (by omega)
    subst e; rfl
  | f + 1, 0, next, d, _, h => by
    have e : d = [] := List.length_eq_zero_iff.1 (by omega)
    subst e; rfl
  | f + 1, m + 1, next, [], _,_ => rfl
  | f + 1, m + 1, next, [_], _,_ => rfl
  | f + 1, m + 1, next, a :: n :: r, h1, h2 => by
    simp only [List.length_cons] at h1 h2
    unfold runsF
    split
    · rfl
    · rw [runsF_fuel f m _ (r.drop n.toNat) (by rw [List.length_drop]; omega) (by rw [List.length_drop]; omega)]
/-- the cell's block, by the one ahead -/
def stepB (key : Int → Key) (c : Cp) (b : Blk) : Option Blk :=
  if c.kind = 1 then some (putAt b 0 (xorB (padB (key (2 * c.num)) (c.num + c.ref * 4294967296)).1 c.body)) else if c.kind = 3 then applyD b (xorB (padB (key (2 * c.num)) c.num).1 c.body) else some b
def foldB (key : Int → Key) : List Cp → Option Blk
  | [] => some (By.zero 32)
  | c :: l => (foldB key l).bind (stepB key c)
def readW (key : Int → Key) (w : List Cp × Int) : Blk × Int := if w.2 ≠ 0 then (By.zero 32, w.2) else match foldB key w.1 with
  | none => (By.zero 32, 3)
  | some b => (b, 0)
def readF (g : Getf) (has : Int → Bool) (key : Int → Key) (n : Int) : Blk × Int := readW key (wayF g has 5 0 n)
/-! ### What does not count -/
theorem fold_cons {key : Int → Key} {c : Cp} {l : List Cp} : foldB key (c :: l) = (foldB key l).bind (stepB key c) := rfl
/-! ### What is needed -/
def needF (g : Getf) : Nat → Int → List Int
  | 0, _ => []
  | f + 1, n => match g n with
    | none => []
    | some c => if momK c.kind = true ∧ rightC c ∧ c.kind ≠ 1 then c.ref :: needF g f c.ref else []
end Go.Er


/-
  Bits of bytes; differences, run by run.
-/
namespace Go.Er
open Go
/-! ### Bit by bit -/
def xb (x y k : Nat) : Nat := (x ^^^ y) % 2 ^ k
theorem xb_zero (x y : Nat) : xb x y 0 = 0 := Nat.mod_one _
theorem xb_succ (x y k : Nat) : xb x y (k + 1) = xb x y k + 2 ^ k * ((x ^^^ y) / 2 ^ k % 2) := by
  unfold xb
  rw [Nat.pow_succ, Nat.mod_mul]
theorem xor_bit (x y k : Nat) : (x ^^^ y) / 2 ^ k % 2 = if x / 2 ^ k % 2 = y / 2 ^ k % 2 then 0 else 1 := by
  have h := Nat.testBit_xor x y k
  rw [Nat.testBit_eq_decide_div_mod_eq, Nat.testBit_eq_decide_div_mod_eq, Nat.testBit_eq_decide_div_mod_eq] at h
  have h0 : (x ^^^ y) / 2 ^ k % 2 < 2 := Nat.mod_lt _ (by omega)
  have h1 : x / 2 ^ k % 2 < 2 := Nat.mod_lt _ (by omega)
  have h2 : y / 2 ^ k % 2 < 2 := Nat.mod_lt _ (by omega)
  generalize (x ^^^ y) / 2 ^ k % 2 = a at *
  generalize x / 2 ^ k % 2 = b at *
  generalize y / 2 ^ k % 2 = c at *
  have ha : a = 0 ∨ a = 1 := by omega
  have hb : b = 0 ∨ b = 1 := by omega
  have hc : c = 0 ∨ c = 1 := by omega
  rcases ha with rfl | rfl <;> rcases hb with rfl | rfl <;> rcases hc with rfl | rfl <;> first | rfl | (simp at h)
theorem xb_yes {x y k : Nat} (h : x / 2 ^ k % 2 ≠ y / 2 ^ k % 2) : xb x y (k + 1) = xb x y k + 2 ^ k := by
  rw [xb_succ, xor_bit, if_neg h, Nat.mul_one]
theorem xb_no {x y k : Nat} (h : x / 2 ^ k % 2 = y / 2 ^ k % 2) : xb x y (k + 1) = xb x y k := by
  rw [xb_succ, xor_bit, if_pos h, Nat.mul_zero, Nat.add_zero]
theorem xb_all (x y : UInt8) : xb x.toNat y.toNat 8 = (x ^^^ y).toNat := by
  unfold xb
  rw [UInt8.toNat_xor]
  exact Nat.mod_eq_of_lt (by rw [← UInt8.toNat_xor]; exact (x ^^^ y).toNat_lt)
theorem xb_lt (x y k : Nat) : xb x y k < 2 ^ k := Nat.mod_lt _ (Nat.pow_pos (by omega))
theorem xorB_get {p b : List UInt8} {i : Nat} (h1 : i < b.length) (h2 : i < p.length) : (xorB p b)[i]? = some (b.getD i 0 ^^^ p.getD i 0) := by
  unfold xorB
  rw [List.getElem?_zipWith, List.getElem?_eq_getElem h1, List.getElem?_eq_getElem h2, List.getD_eq_getElem?_getD, List.getD_eq_getElem?_getD, List.getElem?_eq_getElem h1, List.getElem?_eq_getElem h2]
  rfl
theorem xorB_take {p b : List UInt8} {i : Nat} (h1 : i < b.length) (h2 : b.length ≤ p.length) : (xorB p b).take (i + 1) = (xorB p b).take i ++ [b.getD i 0 ^^^ p.getD i 0] := by
  rw [List.take_add_one, xorB_get h1 (by omega)]; rfl
/-! ### Differences -/
section
variable {ds : List UInt8} {next a n : Nat}
theorem runs_one (h : ds.length = 1) (f : Nat) : runsF f next ds = none := by
  match ds, h with
  | [x], _ => cases f <;> rfl
theorem cons2 (h : 2 ≤ ds.length) : ds = ds.getD 0 0 :: ds.getD 1 0 :: ds.drop 2 := by
  match ds, h with
  | x :: y :: r, _ => rfl
theorem runsF_cons (f next : Nat) (a n : UInt8) (r : List UInt8) : runsF (f + 1) next (a :: n :: r) = if n.toNat < 1 ∨ r.length < n.toNat ∨ a.toNat < next ∨ 32 < a.toNat + n.toNat then none else (runsF f (a.toNat + n.toNat + 1) (r.drop n.toNat)).map ((a.toNat, r.take n.toNat) :: ·) := by
  rw [runsF]
theorem runs_bad (h : 2 ≤ ds.length) (ha : a = (ds.getD 0 0).toNat) (hn : n = (ds.getD 1 0).toNat) (hb : n < 1 ∨ ds.length < n + 2 ∨ a < next ∨ 32 < a + n) : runsF ds.length next ds = none := by
  obtain ⟨k, hk⟩ : ∃ k, ds.length = k + 1 := ⟨ds.length - 1, by omega⟩
  have hl : (ds.drop 2).length + 2 = ds.length := by rw [List.length_drop]; omega
  rw [hk, cons2 h, runsF_cons, if_pos]
  rw [← ha, ← hn]; omega
theorem runs_ok (h : 2 ≤ ds.length) (ha : a = (ds.getD 0 0).toNat) (hn : n = (ds.getD 1 0).toNat) (c1 : 1 ≤ n) (c2 : n + 2 ≤ ds.length) (c3 : next ≤ a) (c4 : a + n ≤ 32) :
    runsF ds.length next ds = (runsF (ds.drop (2 + n)).length (a + n + 1) (ds.drop (2 + n))).map ((a, (ds.drop 2).take n) :: ·) := by
  obtain ⟨k, hk⟩ : ∃ k, ds.length = k + 1 := ⟨ds.length - 1, by omega⟩
  have hl : (ds.drop 2).length + 2 = ds.length := by rw [List.length_drop]; omega
  have e : runsF ds.length next ds = runsF (k + 1) next (ds.getD 0 0 :: ds.getD 1 0 :: ds.drop 2) := by rw [← cons2 h, hk]
  rw [e, runsF_cons, if_neg (by rw [← ha, ← hn]; omega), ← ha, ← hn, List.drop_drop]
  rw [runsF_fuel k (ds.drop (2 + n)).length _ _ (by rw [List.length_drop]; omega) (Nat.le_refl _)]
theorem runs_nil (f : Nat) : runsF f next [] = some [] := by cases f <;> rfl
/-- a run is put upon a block -/
theorem runs_put (h : 2 ≤ ds.length) (ha : a = (ds.getD 0 0).toNat) (hn : n = (ds.getD 1 0).toNat) (c1 : 1 ≤ n) (c2 : n + 2 ≤ ds.length) (c3 : next ≤ a) (c4 : a + n ≤ 32) (b : Blk) :
    (runsF ds.length next ds).map (putAll b) = (runsF (ds.drop (2 + n)).length (a + n + 1) (ds.drop (2 + n))).map (putAll (putAt b a ((ds.drop 2).take n))) := by
  rw [runs_ok h ha hn c1 c2 c3 c4, Option.map_map]; rfl
end
end Go.Er


/-
  Whole numbers of eight bits, as the program has them; the little cipher without an Off.
-/
namespace Go.Er
open Go
section
variable {P : Program} {w : World} {l : Fr} {x y : Operand} {T T' : TypeId} {d : Option Nat} {ty : TypeId} {pos : String} {after : Array Edge} {g : Option (Nat × Bool)}
theorem r_nilf {D : TypeDesc} {f : Fn} {fs cs : Array Value} (hu : Und P T D) (hD : ∃ a b c, D = .func a b c) (hx : evl l x = .func f fs cs) (hy : evl l y = .nilFunc) : (execOp (evl l) ⟨d, .binOp .eql T x y T', ty, pos, after, g⟩).run P w = .ok (.value (.bool false)) w := by
  obtain ⟨a, b, c, rfl⟩ := hD
  have h : ∀ n, (Op.equalIn (n + 1) T (.func f fs cs) .nilFunc).run P w = .ok false w := fun n => by simp [Op.equalIn, hu w]
  simp only [execOp, hx, hy, eqGuard, binOp]
  simp [equal_of h]
end
theorem xor_u8 (a b : UInt8) : IntKind.u8.wrap (BitVec.ofInt IntKind.u8.bits (a.toNat : Int) ^^^ BitVec.ofInt IntKind.u8.bits (b.toNat : Int)).toNat = ((a ^^^ b).toNat : Int) := by
  have e : ∀ c : UInt8, BitVec.ofInt IntKind.u8.bits (c.toNat : Int) = c.toBitVec := by
    intro c
    apply BitVec.eq_of_toNat_eq
    rw [BitVec.toNat_ofInt]
    have := c.toNat_lt
    show (((c.toNat : Int) % ((2 ^ 8 : Nat) : Int)).toNat) = c.toNat
    omega
  rw [e, e]
  show IntKind.u8.wrap ((a ^^^ b).toNat : Int) = _
  rw [w_u8']
  have := (a ^^^ b).toNat_lt
  omega
theorem xorB_getD {p b : List UInt8} {i : Nat} (h1 : i < b.length) (h2 : i < p.length) : (xorB p b).getD i 0 = b.getD i 0 ^^^ p.getD i 0 := by
  have h := xorB_get h1 h2
  rw [List.getD_eq_getElem?_getD, h]; rfl
theorem tm2 (a : Nat) : Int.tmod (a : Int) 2 = ((a % 2 : Nat) : Int) := rfl
theorem td2 (a : Nat) (h : a < 256) : IntKind.u8.wrap (Int.tdiv (a : Int) 2) = ((a / 2 : Nat) : Int) := by
  have e : Int.tdiv (a : Int) 2 = ((a / 2 : Nat) : Int) := rfl
  rw [e, w_u8']
  omega
theorem div_pow_succ (x k : Nat) : x / 2 ^ k / 2 = x / 2 ^ (k + 1) := by rw [Nat.div_div_eq_div_mul, Nat.pow_succ]
theorem bit_dbl (k : Nat) : IntKind.u8.wrap (((2 ^ k % 256 : Nat) : Int) * 2) = ((2 ^ (k + 1) % 256 : Nat) : Int) := by
  rw [w_u8', Nat.pow_succ]
  generalize 2 ^ k = a
  omega
theorem bit_add {x y k : Nat} (hk : k < 8) : IntKind.u8.wrap (((xb x y k : Nat) : Int) + ((2 ^ k % 256 : Nat) : Int)) = ((xb x y k + 2 ^ k : Nat) : Int) := by
  have h1 := xb_lt x y k
  have h2 : 2 ^ k ≤ 128 := Nat.pow_le_pow_right (n := 2) (by omega) (show k ≤ 7 by omega)
  rw [w_u8']
  generalize 2 ^ k = a at *
  omega
/-- the little cipher as it is -/
def litC : List Value := kC (By.zero 32) ++ .int .u64 0 :: kC (By.zero 32)
theorem litC_key : ((litC.drop 0).take 32) = kC (By.zero 32) := rfl
theorem litC_n : litC[0 + 32]? = some (.int .u64 0) := rfl
theorem litC_length : litC.length = 65 := rfl
theorem litC_one : ∀ v ∈ litC, v.oneCell' = true := by
  intro v hv
  unfold litC at hv
  rcases List.mem_append.1 hv with h | h
  · exact kC_one _ v h
  · rcases List.mem_cons.1 h with rfl | h
    · rfl
    · exact kC_one _ v h
theorem shl32 {n : Int} (h0 : 0 ≤ n) (h1 : n ≤ 65535) : IntKind.u64.wrap (n * 2 ^ min (32 : Int).toNat IntKind.u64.bits) = n * 4294967296 := w_u64e rfl (by show 0 ≤ n * 4294967296; omega) (by show n * 4294967296 < _; omega)
theorem momK_yes {k : Int} (h : k = 1 ∨ k = 2 ∨ k = 3) : momK k = true := decide_eq_true h
theorem momK_no {k : Int} (h1 : k ≠ 1) (h2 : k ≠ 2) (h3 : k ≠ 3) : momK k = false := decide_eq_false (by omega)
def lf (n : Int) : Int := 2 * n % 18446744073709551616
theorem lf_right {c : Cp} (h : rightC c) : lf c.num = 2 * c.num := by
  obtain ⟨_,_, h1, h2, _⟩ := h
  unfold lf; omega
/-- a getter's cells -/
def GetW (w : World) (bg : Nat) (l : List Ce) : Prop := ∃ a c T fz, w.heap[bg]? = some (.cells [.slice a l.length c].toArray T fz) ∧ RRow ceC w a l ∧ ∀ y ∈ l, BRow w y.body.a y.body.b
theorem GetW.st {w0 w : World} {L : List (Nat × Obj)} {bg : Nat} {l : List Ce} (h : GetW w0 bg l) (H : St w0 [] w L) : GetW w bg l := by
  obtain ⟨a, c, T, fz, h1, h2, h3⟩ := h
  exact ⟨a, c, T, fz, H.rd0 h1, h2.st H, fun y hy => (h3 y hy).st H⟩
theorem Own.stM {w0 w : World} {N L : List (Nat × Obj)} (h : Go.Er.Own w0 N) (H : St w0 [] w L) : Go.Er.Own w N := ⟨fun p hp => H.rd0 (h.1 p hp), h.2⟩
/-- what is wrong with a cell on the way -/
def lookV (y : Cp) (ok : Bool) (refs : Nat) (has : Int → Bool) : Int := if ok = false then 4 else if ¬ rightC y then 3 else if y.kind ≠ 1 ∧ refs = 4 then 16 else if y.kind ≠ 2 ∧ has (2 * y.num) = false then 10 else 0
theorem lookV_in {g : Getf} {has : Int → Bool} {refs : Nat} {n : Int} {c : Cp} (hg : g n = some c) (hn : c.num = n) : lookF g has refs n = lookV c (momK c.kind) refs has := by
  rw [look_some hg]
  unfold lookV
  rw [hn]
theorem lookV_no {g : Getf} {has : Int → Bool} {refs : Nat} {n : Int} {c : Cp} (hg : g n = none) : lookF g has refs n = lookV c false refs has := by
  rw [look_none hg]; rfl
/-- is a leaf held? -/
def hasH (xs : List Held) (n : Int) : Bool := decide (∃ x ∈ xs, InN x n)
theorem need_stop {g : Getf} {f : Nat} {n : Int} (h : ∀ c, g n = some c → ¬ (momK c.kind = true ∧ rightC c ∧ c.kind ≠ 1)) : needF g f n = [] := by
  cases f with
  | zero => rfl
  | succ f =>
    unfold needF
    cases hg : g n with
    | none => rfl
    | some c => exact if_neg (h c hg)
theorem need_on {g : Getf} {f : Nat} {n : Int} {c : Cp} (hg : g n = some c) (h1 : momK c.kind = true) (h2 : rightC c) (h3 : c.kind ≠ 1) : needF g (f + 1) n = c.ref :: needF g f c.ref := by
  rw [needF, hg]
  exact if_pos ⟨h1, h2, h3⟩
theorem need_len {g : Getf} : ∀ (f : Nat) (n : Int), (needF g f n).length ≤ f
  | 0, _ => Nat.le_refl _
  | f + 1, n => by
    rw [needF]
    cases g n with
    | none => exact Nat.zero_le _
    | some c =>
      show (if momK c.kind = true ∧ rightC c ∧ c.kind ≠ 1 then c.ref :: needF g f c.ref else []).length ≤ _
      split
      · have := need_len (g := g) f c.ref
        rw [List.length_cons]; omega
      · exact Nat.zero_le _
theorem findP_take {l : List Ce} {i : Nat} {y : Ce} {n : Int} (h : ∀ x ∈ l.take i, x.num ≠ n) (hx : l[i]? = some y) (hn : y.num = n) : findP (l.map ceP) n = some (ceP y) := by
  obtain ⟨hi, e⟩ := List.getElem?_eq_some_iff.1 hx
  have e2 : l = l.take i ++ y :: l.drop (i + 1) := by rw [← e, ← List.drop_eq_getElem_cons hi, List.take_append_drop]
  rw [e2, List.map_append, List.map_cons]
  unfold findP
  rw [List.find?_append, List.find?_eq_none.2 (fun c hc => ?_), Option.none_or, List.find?_cons_of_pos]
  · exact decide_eq_true hn
  · obtain ⟨x, hx, rfl⟩ := List.mem_map.1 hc
    intro h2
    exact h x hx (of_decide_eq_true h2)
theorem findP_all {l : List Ce} {n : Int} (h : ∀ x ∈ l, x.num ≠ n) : findP (l.map ceP) n = none := by
  unfold findP
  refine List.find?_eq_none.2 fun c hc => ?_
  obtain ⟨x, hx, rfl⟩ := List.mem_map.1 hc
  intro h2
  exact h x hx (of_decide_eq_true h2)
end Go.Er


/-
  Bytes read of a row that may have been cut; a leaf's key; a block that is written upon.
-/
namespace Go.Er
open Go
section
variable {P : Program} {w : World} {l : Fr} {x : Operand} {T : TypeId} {d : Option Nat} {ty : TypeId} {pos : String} {after : Array Edge} {g : Option (Nat × Bool)} {b off o i : Nat} {bs : List UInt8}
theorem r_loadB (ha : IsAgg P T false) (hx : evl l x = .pointer (some ⟨b, o, none⟩)) (h : BRow w (some ⟨b, off, none⟩) bs) (hi : i < bs.length) (ho : o = off + i) : (execOp (evl l) ⟨d, .load T x, ty, pos, after, g⟩).run P w = .ok (.value (.int .u8 ((bs.getD i 0).toNat : Int))) w := by
  obtain ⟨b', off', pre, post, T', fz, e, hb, hp⟩ := h (by omega)
  injection e with e
  injection e with e1 e2
  subst e1 e2
  exact r_load1 ha hx hb (bs_getE pre bs post i hp hi ho)
end
def keyH (xs : List Held) (n : Int) : Key := match xs.find? (fun x => decide (InN x n)) with
  | none => By.zero 32
  | some x => leafK litL litR x n
theorem keyH_rel (xs : List Held) (n : Int) : KeyR litL litR xs n (keyH xs n) (hasH xs n) := by
  unfold keyH hasH
  cases h : xs.find? (fun x => decide (InN x n)) with
  | none =>
    have hn : ¬ ∃ x ∈ xs, InN x n := fun ⟨x, hx, hi⟩ => by
      have h2 := List.find?_eq_none.1 h x hx
      exact h2 (decide_eq_true hi)
    exact .inr ⟨decide_eq_false hn, rfl, hn⟩
  | some x =>
    have h1 := List.mem_of_find?_eq_some h
    have h3 := List.find?_some h
    have h2 : InN x n := of_decide_eq_true h3
    exact .inl ⟨decide_eq_true ⟨x, h1, h2⟩, x, h1, h2, rfl⟩
theorem keyH_of {xs : List Held} {n : Int} {k : Key} {ok : Bool} (hv : Valid xs) (h : KeyR litL litR xs n k ok) : k = keyH xs n ∧ ok = hasH xs n :=
  ⟨keyR_uniq hv (keyH_rel xs n) h, keyR_ok h⟩
theorem put_splice (b : Blk) {i : Nat} {x : List UInt8} (h : i + x.length ≤ 32) : splice (kC b) i (bC x) = kC (putAt b i x) := by
  have e : kC (putAt b i x) = bC (putAt b i x).1 := rfl
  have e2 : kC b = bC b.1 := rfl
  rw [e, putAt_val h, e2, bC_append, bC_append]
  unfold splice bC
  simp [List.map_take, List.map_drop]
section
variable {P : Program} {w0 w : World} {X : List Nat}
theorem round_outM {r : Nat} {args : Array Value} {x y : Nat × Obj} (pre : List (Nat × Obj)) {M M2 : List (Nat × Obj) → Prop}
    (h : ∃ fn' tmps assign' body', (Instr.yield r args).run P w = .ok (.round r fn' tmps assign' body') w ∧
      RoundIn Fence.wide 0 P r fn' tmps assign' body' w fun e w' => (e = .returned (.bool true) ∧ ∃ L', St w0 X w' (x :: L') ∧ ∃ N', L' = pre ++ N' ∧ M N') ∨ (e = .returned (.bool false) ∧ ∃ L', St w0 X w' (y :: L') ∧ M2 L')) :
    ∃ fn' tmps assign' body', (Instr.yield r args).run P w = .ok (.round r fn' tmps assign' body') w ∧
      RoundIn Fence.wide 0 P r fn' tmps assign' body' w fun e w' => (e = .returned (.bool true) ∧ ∃ N', M N' ∧ St w0 X w' (x :: (pre ++ N'))) ∨ (e = .returned (.bool false) ∧ ∃ L', St w0 X w' (y :: L') ∧ M2 L') := by
  obtain ⟨f, t, a, b, hr, hR⟩ := h
  refine ⟨f, t, a, b, hr, hR.mono ?_⟩
  rintro e w' (⟨he, L', H, N', rfl, hM⟩ | ⟨he, L', H, hM⟩)
  · exact .inl ⟨he, N', hM, H⟩
  · exact .inr ⟨he, L', H, hM⟩
theorem St.mid5 {A M R No : List (Nat × Obj)} (H : St w0 X w (No ++ (A ++ (M ++ R)))) : St w0 X w (A ++ (M ++ (No ++ R))) := by
  refine H.perm ?_
  exact ((List.perm_append_comm_assoc M No R).append_left A).trans (List.perm_append_comm_assoc A No (M ++ R))
end
theorem blk_src {P : Program} {w : World} {b : Nat} {bs : List UInt8} {T : TypeId} {fz : Nat × Nat} (hb : w.heap[b]? = some (.cells (bC bs).toArray T fz)) (c : Nat) : Src P w 1 (.slice (some ⟨b, 0, none⟩) bs.length c) bs.length (bC bs) :=
  BRow.src (fun _ => ⟨b, 0, [], [], T, fz, rfl, by rw [List.nil_append, List.append_nil]; exact hb, rfl⟩) c
theorem fold_none {key : Int → Key} : ∀ {l : List Cp} {k : Nat}, foldB key (l.drop k) = none → foldB key l = none
  | _, 0, h => h
  | [], k + 1, h => by rw [List.drop_nil] at h; exact h
  | c :: l, k + 1, h => by
    rw [List.drop_succ_cons] at h
    rw [fold_cons, fold_none h]; rfl
theorem fold_at {key : Int → Key} {l : List Ce} {k : Nat} {y : Ce} (h : l[k]? = some y) : foldB key ((l.map ceP).drop k) = (foldB key ((l.map ceP).drop (k + 1))).bind (stepB key (ceP y)) := by
  obtain ⟨hk, e⟩ := List.getElem?_eq_some_iff.1 h
  rw [List.drop_eq_getElem_cons (by rw [List.length_map]; exact hk), fold_cons, List.getElem_map, e]
theorem readW_bad {key : Int → Key} {w : List Cp × Int} (h : w.2 ≠ 0) : readW key w = (By.zero 32, w.2) := if_pos h
theorem readW_none {key : Int → Key} {l : List Cp} (h : foldB key l = none) : readW key (l, 0) = (By.zero 32, 3) := by
  unfold readW
  rw [if_neg (fun h => h rfl)]
  show (match foldB key l with | none => _ | some b => _) = _
  rw [h]
theorem readW_some {key : Int → Key} {l : List Cp} {b : Blk} (h : foldB key l = some b) : readW key (l, 0) = (b, 0) := by
  unfold readW
  rw [if_neg (fun h => h rfl)]
  show (match foldB key l with | none => _ | some b => _) = _
  rw [h]
theorem runsD_none {ds : List UInt8} {f g2 : List (Nat × List UInt8) → Blk} (h : ds.length ≤ 20) (hI : (runsF ds.length 0 ds).map f = Option.map g2 none) : runsD ds = none := by
  unfold runsD
  rw [if_neg (by omega)]
  cases hr : runsF ds.length 0 ds with
  | none => rfl
  | some l => rw [hr] at hI; cases hI
theorem runsD_some {ds : List UInt8} {b0 b : Blk} (h : ds.length ≤ 20) (hI : (runsF ds.length 0 ds).map (putAll b0) = Option.map (putAll b) (some [])) : (runsD ds).map (putAll b0) = some b := by
  unfold runsD
  rw [if_neg (by omega), hI]; rfl
/-- a cell's body, shown -/
def shownC (key : Int → Key) (c : Cp) : List UInt8 := xorB (padB (key (2 * c.num)) (if c.kind = 1 then c.num + c.ref * 4294967296 else c.num)).1 c.body
theorem shownC_length {key : Int → Key} {c : Cp} (h : c.body.length ≤ 32) : (shownC key c).length = c.body.length := xorB_length (by rw [(padB _ _).2]; exact h)
theorem ce_kind {cs : List Ce} {sp : List Value} {z : Ce} {i o : Nat} (hx : cs[i]? = some z) (he : o = i * 11) : (rowC ceC cs ++ sp)[o]? = some (.int .i64 z.kind) := by
  have h := row_get elCe [] sp (off := 0) rfl hx (j := 0) (o := o) (by omega) (by omega)
  rw [List.nil_append] at h
  rw [h]; rfl
theorem ce_ref {cl : List Ce} {y : Ce} {n : Int} (h : findP (cl.map ceP) n = some (ceP y)) (hr : ∀ z ∈ cl, 0 ≤ z.ref) : 0 ≤ y.ref := by
  obtain ⟨z, hz, e⟩ := List.mem_map.1 (findP_mem h)
  have h2 : z.ref = y.ref := congrArg Cp.ref e
  have := hr z hz
  omega
theorem step_full {key : Int → Key} {c : Cp} {b : Blk} (h : c.kind = 1) : stepB key c b = some (putAt b 0 (shownC key c)) := by
  unfold stepB shownC
  rw [if_pos h, if_pos h]
theorem step_delta {key : Int → Key} {c : Cp} {b : Blk} (h : c.kind = 3) : stepB key c b = applyD b (shownC key c) := by
  unfold stepB shownC
  rw [if_neg (by omega), if_pos h, if_neg (by omega)]
theorem step_same {key : Int → Key} {c : Cp} {b : Blk} (h1 : c.kind ≠ 1) (h3 : c.kind ≠ 3) : stepB key c b = some b := by
  unfold stepB
  rw [if_neg h1, if_neg h3]
theorem right_body {c : Cp} (h : rightC c) (hk : c.kind = 1 ∨ c.kind = 3) : c.body.length ≤ 32 := by
  have hf := h.2.2.2.2.2
  rcases hk with hk | hk
  · have := ((fieldsC_1 hk).1 hf).2.2; omega
  · have := ((fieldsC_3 hk).1 hf).2.2.2; omega
theorem right_full {c : Cp} (h : rightC c) (hk : c.kind = 1) : c.body.length = 32 ∧ c.ref ≤ 1 := ⟨((fieldsC_1 hk).1 h.2.2.2.2.2).2.2, ((fieldsC_1 hk).1 h.2.2.2.2.2).2.1⟩
end Go.Er


/-
  A map of numbers, and its keys in any order.
-/
namespace Go.Er
open Go
def vbU (ls : List Int) : List (Int × Value) := ls.map fun n => (n, .bool true)
theorem vbU_length (ls : List Int) : (vbU ls).length = ls.length := List.length_map _
theorem vbU_get {ls : List Int} {i : Nat} {p : Int × Value} (h : (vbU ls)[i]? = some p) : ∃ n, ls[i]? = some n ∧ p = (n, .bool true) := by
  unfold vbU at h
  rw [List.getElem?_map] at h
  cases hx : ls[i]? with
  | none => rw [hx] at h; cases h
  | some n => rw [hx] at h; exact ⟨n, rfl, (Option.some.inj h).symm⟩
def insU : List Int → Int → List Int
  | [], n => [n]
  | x :: l, n => if x = n then n :: l else x :: insU l n
theorem putV_consU (p : Int × Value) (l : List (Int × Value)) (n : Int) (v : Value) : putV (p :: l) n v = if p.1 = n then (n, v) :: l else p :: putV l n v := by
  have e : atV (p :: l) n = if p.1 = n then some 0 else (atV l n).map (· + 1) := rfl
  unfold putV
  rw [e]
  by_cases h : p.1 = n
  · rw [if_pos h, if_pos h]; rfl
  · rw [if_neg h, if_neg h]
    cases atV l n <;> rfl
theorem putV_vb : ∀ (ls : List Int) (n : Int), putV (vbU ls) n (.bool true) = vbU (insU ls n)
  | [], _ => rfl
  | x :: l, n => by
    have ih := putV_vb l n
    have e : insU (x :: l) n = if x = n then n :: l else x :: insU l n := rfl
    show putV ((x, .bool true) :: vbU l) n _ = _
    rw [putV_consU, ih, e]
    by_cases h : x = n
    · rw [if_pos h, if_pos h]; rfl
    · rw [if_neg h, if_neg h]; rfl
theorem mem_insU : ∀ {ls : List Int} {n m : Int}, m ∈ insU ls n ↔ m = n ∨ m ∈ ls
  | [], n, m => by unfold insU; simp
  | x :: l, n, m => by
    unfold insU
    by_cases h : x = n
    · rw [if_pos h, List.mem_cons, List.mem_cons, h]
      constructor
      · rintro (h | h)
        · exact .inl h
        · exact .inr (.inr h)
      · rintro (h | h | h)
        · exact .inl h
        · exact .inl h
        · exact .inr h
    · rw [if_neg h, List.mem_cons, List.mem_cons, mem_insU]
      constructor
      · rintro (h | h | h)
        · exact .inr (.inl h)
        · exact .inl h
        · exact .inr (.inr h)
      · rintro (h | h | h)
        · exact .inr (.inl h)
        · exact .inl h
        · exact .inr (.inr h)
theorem nodup_insU : ∀ {ls : List Int} {n : Int}, ls.Nodup → (insU ls n).Nodup
  | [], n, _ => by unfold insU; simp
  | x :: l, n, h => by
    obtain ⟨h1, h2⟩ := List.nodup_cons.1 h
    unfold insU
    by_cases hx : x = n
    · rw [if_pos hx]; exact List.nodup_cons.2 ⟨by rw [← hx]; exact h1, h2⟩
    · rw [if_neg hx]
      refine List.nodup_cons.2 ⟨fun hm => ?_, nodup_insU h2⟩
      rcases mem_insU.1 hm with h | h
      · exact hx h
      · exact h1 h
theorem insU_len : ∀ (ls : List Int) (n : Int), (insU ls n).length ≤ ls.length + 1
  | [], _ => Nat.le_refl _
  | x :: l, n => by
    have ih := insU_len l n
    unfold insU
    split
    · show l.length + 1 ≤ _; simp
    · show (insU l n).length + 1 ≤ l.length + 1 + 1; omega
section
variable {w0 w : World} {X : List Nat} {b : Nat} {ls : List Int} {n : Int} {R : List (Nat × Obj)}
theorem St.putU (H : St w0 X w ((b, vmO (putV (vbU ls) n (.bool true))) :: R)) : St w0 X w ((b, vmO (vbU (insU ls n))) :: R) := by
  rw [← putV_vb]; exact H
end
/-- which keys were told -/
def SeenI (ls : List Int) (seen : List Nat) (os : List Int) : Prop := seen.Nodup ∧ os.map some = seen.map (fun i => ls[i]?)
theorem SeenI.nil {ls : List Int} : SeenI ls [] [] := ⟨.nil, rfl⟩
theorem SeenI.step {ls os : List Int} {seen : List Nat} {i : Nat} {y : Int} (h : SeenI ls seen os) (hi : ls[i]? = some y) (hs : i ∉ seen) : SeenI ls (seen ++ [i]) (os ++ [y]) := by
  refine ⟨?_, by simp [h.2, hi]⟩
  rw [List.nodup_append]
  refine ⟨h.1, by simp, fun a ha b hb e => ?_⟩
  rw [List.mem_singleton] at hb
  exact hs (hb ▸ e ▸ ha)
theorem SeenI.mem {ls os : List Int} {seen : List Nat} (h : SeenI ls seen os) : ∀ i ∈ seen, i < ls.length := by
  intro i hi
  have h1 : ls[i]? ∈ seen.map (fun i => ls[i]?) := List.mem_map.2 ⟨i, hi, rfl⟩
  rw [← h.2, List.mem_map] at h1
  obtain ⟨y, _, e⟩ := h1
  exact (List.getElem?_eq_some_iff.1 e.symm).1
theorem SeenI.len {ls os : List Int} {seen : List Nat} (h : SeenI ls seen os) : os.length ≤ ls.length := by
  have hl : os.length = seen.length := by have := congrArg List.length h.2; simpa using this
  have h2 := h.1.length_le_of_subset (l₂ := List.range ls.length) (fun i hi => List.mem_range.2 (h.mem i hi))
  rw [List.length_range] at h2
  omega
theorem SeenI.perm {ls os : List Int} {seen : List Nat} (h : SeenI ls seen os) (ha : ∀ i, i < ls.length → i ∈ seen) : os.Perm ls := by
  have h1 : seen.Perm (List.range ls.length) := (List.perm_ext_iff_of_nodup h.1 List.nodup_range).2 fun i => ⟨fun hi => List.mem_range.2 (h.mem i hi), fun hi => ha i (List.mem_range.1 hi)⟩
  have h2 := h1.map (fun i => ls[i]?)
  rw [← h.2] at h2
  have e : (List.range ls.length).map (fun i => ls[i]?) = ls.map some := by
    apply List.ext_getElem?
    intro i
    rw [List.getElem?_map, List.getElem?_map]
    rcases Nat.lt_or_ge i ls.length with hi | hi
    · rw [List.getElem?_range hi, List.getElem?_eq_getElem hi]
      show some (ls[i]?) = _
      rw [List.getElem?_eq_getElem hi]; rfl
    · rw [List.getElem?_eq_none (by rw [List.length_range]; exact hi), List.getElem?_eq_none hi]; rfl
  rw [e] at h2
  have h3 := h2.filterMap id
  simpa using h3
section
variable {P : Program} {w0 w : World} {X : List Nat} {L : List (Nat × Obj)} {l : Fr} {d : Option Tmp} {ty : TypeId} {pos : String} {after : Array Edge} {g : Option (Nat × Bool)} {T E : TypeId} {sz : Nat} {z : Value} {us vs : List Value}
theorem m_bslice2 {o1 o2 : Operand} {v1 v2 : Value} (H : St w0 X w L) (hu : Und P T (.slice E)) (hs : Size P E sz) (hz : Zero P E z) (h0 : 0 < sz) (h24 : sz ≤ 1000000)
    (hx1 : evo l o1 = some v1) (hx2 : evo l o2 = some v2) (hv1 : v1.cells = us.toArray) (hv2 : v2.cells = vs.toArray) (hl1 : us.length = sz) (hl2 : vs.length = sz) :
    ∃ w' b, (execOp (evl l) ⟨d, .buildSlice T 2 [(0, o1), (1, o2)].toArray, ty, pos, after, g⟩).run P w = .ok (.value (.slice (some ⟨b, 0, none⟩) 2 2)) w' ∧ St w0 X w' ((b, .cells (us ++ vs).toArray E (0, 0)) :: L) := by
  refine ⟨_, w.heap.size, ?_, H.alloc (.cells (us ++ vs).toArray E (0, 0))⟩
  let zs := ((Array.range (2 * sz)).map (z.cells[· % z.cells.size]!)).toList
  have hzl : zs.length = 2 * sz := by simp [zs]
  have s1 : splice zs 0 us = us ++ zs.drop sz := by simp [splice, hl1]
  have s2 : splice (us ++ zs.drop sz) sz vs = us ++ vs := by
    rw [splice_at hl1]
    have hd : (zs.drop sz).drop vs.length = [] := by
      apply List.drop_eq_nil_of_le
      rw [List.length_drop]; omega
    rw [hd, List.append_nil]
  have hf : fillL [(0, sz), (sz, sz)] zs [(0, v1), (1, v2)] = some (us ++ vs) := by
    simp only [fillL, List.getElem?_cons_zero, List.getElem?_cons_succ, hv1, hv2]
    rw [if_pos ⟨hl1, by omega⟩, s1, if_pos ⟨hl2, by rw [List.length_append, List.length_drop]; omega⟩, s2]
  have hfill := fill_eq [(0, sz), (sz, sz)] (fun i => some (i * sz, sz)) [(0, v1), (1, v2)] zs (by intro p hp; simp at hp; rcases hp with rfl | rfl <;> simp) hf
  have e : zs.toArray = (Array.range (2 * sz)).map (z.cells[· % z.cells.size]!) := Array.toArray_toList
  rw [e] at hfill
  have h1 : ¬ 2 * sz > 2 ^ 24 := by have : (2 : Nat) ^ 24 = 16777216 := by decide
                                    omega
  have h2 : ¬ 2 * sz = 0 := by omega
  simp only [execOp, Instr.buildSlice, Sem.run_bind, hu w, Result.andThen_ok, hs w, Sem.run_ite, if_neg h1, if_neg h2, hz w, Sem.run_pure]
  simp only [List.map_toArray, List.map_cons, List.map_nil, evl_of hx1, evl_of hx2, hfill]
  rfl
end
theorem swap_permU {ws : List Int} {i j : Nat} (hi : i < ws.length) (hj : j < ws.length) : ((ws.set i (ws.getD j 0)).set j (ws.getD i 0)).Perm ws := by
  rw [List.getD_eq_getElem?_getD, List.getD_eq_getElem?_getD, List.getElem?_eq_getElem hi, List.getElem?_eq_getElem hj]
  exact List.set_set_perm hi hj
theorem u_get0 {ws : List Int} {sp : List Value} {i o : Nat} (hi : i < ws.length) (ho : o = i) : (uC ws ++ sp)[o]? = some (.int .u64 (ws.getD i 0)) := by
  have h := u_get [] ws sp (off := 0) i rfl hi (by omega : o = 0 + i)
  rwa [List.nil_append] at h
theorem uC_setA0 (ns : List Int) (sp : List Value) (i : Nat) (x : Int) {o : Nat} (hi : i < ns.length) (ho : o = i) : (uC ns ++ sp).set o (.int .u64 x) = uC (ns.set i x) ++ sp := by
  subst ho
  rw [List.set_append_left _ _ (by rw [uC_length]; exact hi)]
  unfold uC; rw [List.map_set]
end Go.Er


/-
  Trees and the sets of the leaves that they lost: the plain law.
-/
namespace Go.Er
open Go
section
variable {sl sr : Key → Key} {seed : Key}
theorem root_inM {n : Int} : InN (root seed) n ↔ 0 ≤ n ∧ n < 131072 := by
  have hm : many (root seed).depth = 131072 := many_zero
  unfold InN
  rw [hm]
  show (0 : Int) ≤ n ∧ n < 0 + 131072 ↔ _
  omega
theorem tree0_has {l : List Int} {n : Int} (h0 : 0 ≤ n) (h1 : n < 131072) : (∃ x ∈ tree0 sl sr seed l, InN x n) ↔ n ∉ l :=
  canon_has 17 (root seed) rfl n (root_inM.2 ⟨h0, h1⟩)
end
section
variable {P : Program} {w : World} {l : Fr} {d : Option Tmp} {ty : TypeId} {pos : String} {after : Array Edge} {g : Option (Nat × Bool)} {x y : Operand} {T K E : TypeId} {b : Nat} {ls : List Int} {n : Int}
theorem r_lookupY (h : n ∈ ls) (hu : Und P T (.map K E)) (hk : Und P K (.int .u64)) (hz : Zero P E (.bool false)) (hx : evl l x = .map (some b)) (hy : evl l y = .int .u64 n) (hb : w.heap[b]? = some (mapO ls)) :
    (execOp (evl l) ⟨d, .lookup T x y false, ty, pos, after, g⟩).run P w = .ok (.value (.bool true)) w := by
  rw [r_lookup hu hk hz hx hy hb, decide_eq_true h]
end
end Go.Er


/-
  Chains that are known: the example; Sames of Sames.
-/
namespace Go.Er
open Go
theorem xorB_twice : ∀ {p b : List UInt8}, b.length ≤ p.length → xorB p (xorB p b) = b
  | [], [], _ => rfl
  | _ :: _, [], _ => rfl
  | [], _ :: _, h => absurd h (by simp)
  | x :: p, y :: b, h => by
    have ih := xorB_twice (p := p) (b := b) (by simpa using h)
    show ((y ^^^ x) ^^^ x) :: xorB p (xorB p b) = _
    rw [ih, UInt8.xor_assoc, UInt8.xor_self, UInt8.xor_zero]
theorem putAt_all (b x : Blk) : putAt b 0 x.1 = x := by
  apply Subtype.ext
  rw [putAt_val (by rw [x.2]; decide), x.2, List.take_zero, List.nil_append, List.drop_of_length_le (by rw [b.2]; decide), List.append_nil]
/-- a Full, a Same -/
def fullC (n : Int) (bd : Bd) : Ce := ⟨1, n, 0, 0, 0, 0, 0, 0, 0, 0, bd⟩
def sameC (n r : Int) : Ce := ⟨2, n, 0, 0, 0, 0, r, 0, 0, 0, bdZ⟩
theorem inM0 {m : Int} (h : 0 ≤ m) : inM 0 m := ⟨Int.le_refl _, h⟩
theorem full_right {n : Int} {bd : Bd} (h1 : 1 ≤ n) (h2 : n ≤ 65535) (hb : bd.b.length = 32) : rightC (ceP (fullC n bd)) := by
  have k1 : kPl 1 = true := by decide
  have k2 : kRf 1 = true := by decide
  have k3 : kBo 1 = true := by decide
  refine ⟨(rfl : kOk 1 = true), ⟨fun h => absurd ((show kPl 1 = false from h).symm.trans k1) (by decide), fun h => absurd ((show kRf 1 = false from h).symm.trans k2) (by decide), fun _ => ⟨rfl, rfl, rfl⟩, fun h => absurd ((show kBo 1 = false from h).symm.trans k3) (by decide)⟩, h1, h2, (inM0 (by decide) : inM 0 1073741824), ?_⟩
  exact (fieldsC_1 (y := ceP (fullC n bd)) rfl).2 ⟨(⟨inM0 (by decide), inM0 (by decide), inM0 (by decide)⟩ : inM 0 15 ∧ inM 0 7 ∧ inM 0 255), (by decide : (0 : Int) ≤ 1), hb⟩
theorem same_right {n r : Int} (h1 : 1 ≤ r) (h2 : r < n) (h3 : n ≤ 65535) : rightC (ceP (sameC n r)) := by
  have k1 : kPl 2 = true := by decide
  have k2 : kRf 2 = true := by decide
  refine ⟨(rfl : kOk 2 = true), ⟨fun h => absurd ((show kPl 2 = false from h).symm.trans k1) (by decide), fun h => absurd ((show kRf 2 = false from h).symm.trans k2) (by decide), fun _ => ⟨rfl, rfl, rfl⟩, fun _ => rfl⟩, by show 1 ≤ n; omega, h3, (inM0 (by decide) : inM 0 1073741824), ?_⟩
  exact (fieldsC_2 (y := ceP (sameC n r)) rfl).2 ⟨(⟨inM0 (by decide), inM0 (by decide), inM0 (by decide)⟩ : inM 0 15 ∧ inM 0 7 ∧ inM 0 255), h1, h2⟩
section
variable {g : Getf} {has : Int → Bool} {key : Int → Key} {n r : Int} {bd : Bd} {refs f : Nat}
theorem look_full (hg : g n = some (ceP (fullC n bd))) (hr : rightC (ceP (fullC n bd))) : lookF g has refs n = if has (2 * n) = false then 10 else 0 := by
  rw [look_some hg, if_neg (show ¬ momK (ceP (fullC n bd)).kind = false from (by decide : ¬ momK 1 = false)), if_neg (fun h => h hr), if_neg (fun h => h.1 rfl)]
  by_cases h : has (2 * n) = false
  · rw [if_pos h, if_pos ⟨by show (1 : Int) ≠ 2; decide, h⟩]
  · rw [if_neg h, if_neg (fun h2 => h h2.2)]
theorem look_same (hg : g n = some (ceP (sameC n r))) (hr : rightC (ceP (sameC n r))) : lookF g has refs n = if refs = 4 then 16 else 0 := by
  rw [look_some hg, if_neg (show ¬ momK (ceP (sameC n r)).kind = false from (by decide : ¬ momK 2 = false)), if_neg (fun h => h hr)]
  by_cases h : refs = 4
  · rw [if_pos h, if_pos ⟨by show (2 : Int) ≠ 1; decide, h⟩]
  · rw [if_neg h, if_neg (fun h2 => h h2.2), if_neg (fun h2 => h2.1 rfl)]
theorem way_f (hg : g n = some (ceP (fullC n bd))) (hr : rightC (ceP (fullC n bd))) (hh : has (2 * n) = true) : wayF g has (f + 1) refs n = ([ceP (fullC n bd)], 0) :=
  way_full (by rw [look_full hg hr, if_neg (by rw [hh]; decide)]) hg rfl
theorem way_gone (hg : g n = some (ceP (fullC n bd))) (hr : rightC (ceP (fullC n bd))) (hh : has (2 * n) = false) : wayF g has (f + 1) refs n = ([], 10) := by
  have h : lookF g has refs n = 10 := by rw [look_full hg hr, if_pos hh]
  rw [way_bad (by rw [h]; decide), h]
theorem way_s (hg : g n = some (ceP (sameC n r))) (hr : rightC (ceP (sameC n r))) (h4 : refs ≠ 4) : wayF g has (f + 1) refs n = (ceP (sameC n r) :: (wayF g has f (refs + 1) r).1, (wayF g has f (refs + 1) r).2) :=
  way_on (by rw [look_same hg hr, if_neg h4]) hg (by show (2 : Int) ≠ 1; decide)
theorem fold_s (l : List Cp) : foldB key (ceP (sameC n r) :: l) = foldB key l := by
  rw [fold_cons]
  cases foldB key l with
  | none => rfl
  | some b => exact step_same (by show (2 : Int) ≠ 1; decide) (by show (2 : Int) ≠ 3; decide)
theorem fold_f (b : Blk) (hb : bd.b = xorB (padB (key (2 * n)) n).1 b.1) : foldB key [ceP (fullC n bd)] = some b := by
  rw [fold_cons]
  show stepB key _ _ = _
  rw [step_full rfl]
  have e : shownC key (ceP (fullC n bd)) = b.1 := by
    unfold shownC
    rw [if_pos (show (ceP (fullC n bd)).kind = 1 from rfl)]
    show xorB (padB (key (2 * n)) (n + 0 * 4294967296)).1 bd.b = _
    rw [Int.zero_mul, Int.add_zero, hb, xorB_twice (by rw [(padB _ _).2, b.2]; decide)]
  rw [e, putAt_all]
end
/-! ### The example -/
def key5 : Key := ⟨5 :: List.replicate 31 0, rfl⟩
def exB : Blk := ⟨List.replicate 7 0 ++ 9 :: List.replicate 24 0, rfl⟩
theorem exB_set : (kC (By.zero 32)).set 7 (.int .u8 9) = kC exB := rfl
theorem has_tree {seed : Key} {l : List Int} {n : Int} (h0 : 0 ≤ n) (h1 : n < 131072) (h : n ∉ l) : hasH (tree0 litL litR seed l) n = true := decide_eq_true ((tree0_has h0 h1).2 h)
theorem has_gone {seed : Key} {l : List Int} {n : Int} (h : n ∈ l) : hasH (tree0 litL litR seed l) n = false := decide_eq_false (gone h)
theorem GetW.mk2 {w : World} {bg bs : Nat} {T T2 : TypeId} {fz fz2 : Nat × Nat} {f s : Ce} (h1 : w.heap[bg]? = some (.cells [.slice (some ⟨bs, 0, none⟩) 2 2].toArray T fz)) (h2 : w.heap[bs]? = some (.cells (ceC f ++ ceC s).toArray T2 fz2)) (hf : BRow w f.body.a f.body.b) (hs : BRow w s.body.a s.body.b) : GetW w bg [f, s] := by
  refine ⟨some ⟨bs, 0, none⟩, 2, T, fz, h1, fun _ => ⟨bs, 0, [], [], T2, fz2, rfl, ?_, rfl⟩, ?_⟩
  · rw [h2]; simp [rowC]
  · intro y hy
    simp only [List.mem_cons, List.not_mem_nil, or_false] at hy
    rcases hy with rfl | rfl
    · exact hf
    · exact hs
section
variable {bd : Bd}
def exL (bd : Bd) : List Ce := [fullC 3 bd, sameC 9 3]
theorem exL_9 : findP ((exL bd).map ceP) 9 = some (ceP (sameC 9 3)) := rfl
theorem exL_3 : findP ((exL bd).map ceP) 3 = some (ceP (fullC 3 bd)) := rfl
theorem ex_readY {has : Int → Bool} {key : Int → Key} (hh : has 6 = true) (hb : bd.b = xorB (padB (key 6) 3).1 exB.1) : readF (findP ((exL bd).map ceP)) has key 9 = (exB, 0) := by
  have hl : bd.b.length = 32 := by rw [hb, xorB_length (by rw [(padB _ _).2]; decide)]; rfl
  have hr := full_right (n := 3) (bd := bd) (by decide) (by decide) hl
  have hs := same_right (n := 9) (r := 3) (by decide) (by decide) (by decide)
  have e : wayF (findP ((exL bd).map ceP)) has 5 0 9 = ([ceP (sameC 9 3), ceP (fullC 3 bd)], 0) := by
    rw [way_s exL_9 hs (by decide), way_f exL_3 hr (by exact hh)]
  unfold readF
  rw [e]
  exact readW_some ((fold_s _).trans (fold_f exB hb))
theorem ex_readN {has : Int → Bool} {key : Int → Key} (hh : has 6 = false) (hl : bd.b.length = 32) : readF (findP ((exL bd).map ceP)) has key 9 = (By.zero 32, 10) := by
  have hr := full_right (n := 3) (bd := bd) (by decide) (by decide) hl
  have hs := same_right (n := 9) (r := 3) (by decide) (by decide) (by decide)
  have e : (wayF (findP ((exL bd).map ceP)) has 5 0 9).2 = 10 := by
    rw [way_s exL_9 hs (by decide), way_gone exL_3 hr (by exact hh)]
  unfold readF
  rw [readW_bad (by rw [e]; decide), e]
theorem ex_need : needF (findP ((exL bd).map ceP)) 4 9 = [3] := by
  have hs := same_right (n := 9) (r := 3) (by decide) (by decide) (by decide)
  rw [need_on exL_9 rfl hs (by show (2 : Int) ≠ 1; decide)]
  show (3 : Int) :: needF _ 3 3 = [3]
  rw [need_stop (n := 3) (fun c hc h => by
    rw [exL_3] at hc
    injection hc with hc
    subst hc
    exact h.2.2 rfl)]
theorem ex_close {os : List Int} (hn : os.Nodup) (hm : ∀ x, x ∈ os ↔ ∃ n ∈ [(9 : Int)], x = n ∨ x ∈ needF (findP ((exL bd).map ceP)) 4 n) : os.length = 2 := by
  have hp : os.Perm [9, 3] := (List.perm_ext_iff_of_nodup hn (by decide)).2 fun x => by
    rw [hm x]
    constructor
    · rintro ⟨n, h1, h2⟩
      rw [List.mem_singleton.1 h1, ex_need] at h2
      rcases h2 with h2 | h2
      · rw [h2]; exact List.mem_cons_self
      · rw [List.mem_singleton.1 h2]; exact List.mem_cons_of_mem _ List.mem_cons_self
    · intro h
      rcases List.mem_cons.1 h with h | h
      · exact ⟨9, List.mem_cons_self, .inl h⟩
      · exact ⟨9, List.mem_cons_self, .inr (by rw [ex_need]; exact h)⟩
  exact hp.length_eq
end
end Go.Er


/-
  A case: cells, a seed, leaves that are gone; what a read hangs on.
-/
namespace Go.Er
open Go
section
variable (a : Option Addr) (c : Nat) (cl : List Ce) (seed : Key) (ga : Option Addr) (gc : Nat) (ns : List Int)
def caC : List Value := .slice a cl.length c :: (kC seed ++ [.slice ga ns.length gc])
theorem caC_length : (caC a c cl seed ga gc ns).length = 34 := by unfold caC; rw [List.length_cons, List.length_append, kC_length]; rfl
theorem caC_td : ((caC a c cl seed ga gc ns).drop 0).take 34 = caC a c cl seed ga gc ns := by rw [List.drop_zero, List.take_of_length_le (by rw [caC_length]; exact Nat.le_refl _)]
theorem caC_cl : (caC a c cl seed ga gc ns)[0]? = some (.slice a cl.length c) := rfl
theorem caC_ns : (caC a c cl seed ga gc ns)[0 + 33]? = some (.slice ga ns.length gc) := by
  show (kC seed ++ _)[32]? = _
  rw [List.getElem?_append_right (by rw [kC_length]; exact Nat.le_refl _), kC_length]; rfl
end
/-- a case that is no more than is looked at -/
def CaS (cl : List Ce) (ns : List Int) : Prop := cl.length ≤ 12 ∧ ns.length ≤ 12 ∧ ∀ y ∈ cl, y.body.b.length ≤ 100
/-- its rows -/
structure CaW (w : World) (a : Option Addr) (cl : List Ce) (ga : Option Addr) (ns : List Int) : Prop where
  row : RRow ceC w a cl
  body : ∀ y ∈ cl, BRow w y.body.a y.body.b
  gone : URow w ga ns
  u64 : U64 ns
  ref : ∀ y ∈ cl, 0 ≤ y.ref
  num : ∀ y ∈ cl, 0 ≤ y.num
section
variable {a ga : Option Addr} {cl : List Ce} {ns : List Int} {w0 w : World} {L : List (Nat × Obj)}
theorem CaW.st (h : CaW w0 a cl ga ns) (H : St w0 [] w L) : CaW w a cl ga ns := ⟨h.row.st H, fun y hy => (h.body y hy).st H, h.gone.st H, h.u64, h.ref, h.num⟩
theorem CaW.get {bg c : Nat} {T : TypeId} {fz : Nat × Nat} (h : CaW w0 a cl ga ns) (H : St w0 [] w L) (hb : w.heap[bg]? = some (.cells [.slice a cl.length c].toArray T fz)) : GetW w bg cl :=
  ⟨a, c, T, fz, hb, h.row.st H, fun y hy => (h.body y hy).st H⟩
end
/-! ### What a read hangs on -/
section
variable {g g' : Getf} {has has' : Int → Bool} {key key' : Int → Key} {c : Cp} {n m : Int}
end
end Go.Er


/-
  An argument opened: a case of cells, of a seed, of leaves.
-/
namespace Go.Er
open Go Go.ChangeShapes Go.WideShapes Go.RowKit Go.Deep
section
variable {H : Type} {enc : TypeId × Value → H} {P : Program} {w : World} {base : Nat} {held : Bool} {fuel : Nat} {cs : List Value} {x : DataW H × List MemPlace} {t e : TypeId}
/-- a struct of whole numbers, a place, and bytes -/
structure CeD (P : Program) (T : TypeId) : Prop where
  cells : P.cellsOf T = 11
  fs : ∃ (fs gs : Array Field) (f0 f1 f2 f3 f4 f5 f6 f7 f8 g0 g1 g2 : Field) (e : TypeId), P.underlying T = some (.struct fs) ∧ fs = #[f0, f1, f2, f3, f4, f5, f6, f7, f8] ∧
    (f0.offset = 0 ∧ f1.offset = 1 ∧ f2.offset = 2 ∧ f3.offset = 3 ∧ f4.offset = 6 ∧ f5.offset = 7 ∧ f6.offset = 8 ∧ f7.offset = 9 ∧ f8.offset = 10) ∧
    (P.cellsOf f0.type = 1 ∧ P.cellsOf f1.type = 1 ∧ P.cellsOf f2.type = 1 ∧ P.cellsOf f3.type = 3 ∧ P.cellsOf f4.type = 1 ∧ P.cellsOf f5.type = 1 ∧ P.cellsOf f6.type = 1 ∧ P.cellsOf f7.type = 1 ∧ P.cellsOf f8.type = 1) ∧
    (P.underlying f0.type = some (.int .i64) ∧ P.underlying f1.type = some (.int .u64) ∧ P.underlying f2.type = some (.int .i64) ∧ P.underlying f3.type = some (.struct gs) ∧ P.underlying f4.type = some (.int .u64) ∧ P.underlying f5.type = some (.int .i64) ∧ P.underlying f6.type = some (.int .i64) ∧ P.underlying f7.type = some (.int .i64) ∧ P.underlying f8.type = some (.slice e)) ∧
    P.underlying e = some (.int .u8) ∧ P.cellsOf e = 1 ∧ gs = #[g0, g1, g2] ∧ (g0.offset = 0 ∧ g1.offset = 1 ∧ g2.offset = 2) ∧ (P.cellsOf g0.type = 1 ∧ P.cellsOf g1.type = 1 ∧ P.cellsOf g2.type = 1) ∧ (P.underlying g0.type = some (.int .i64) ∧ P.underlying g1.type = some (.int .i64) ∧ P.underlying g2.type = some (.int .i64))
def CeOK (w : World) (y : Ce) : Prop := 0 ≤ y.num ∧ 0 ≤ y.ref ∧ BRow w y.body.a y.body.b
theorem u64_nn {n : Int} (h : (Lit.int .u64 n).wf = true) : 0 ≤ n := (u64_rng h).1
theorem trod_ce (hn : CeD P t) (h : DataW.trod enc P w base (fun _ => true) held fuel t cs = some x) : ∃ y : Ce, cs = ceC y ∧ CeOK w y := by
  obtain ⟨fs, gs, f0, f1, f2, f3, f4, f5, f6, f7, f8, q0, q1, q2, e, hu, rfl, ⟨o0, o1, o2, o3, o4, o5, o6, o7, o8⟩, ⟨c0, c1, c2, c3, c4, c5, c6, c7, c8⟩, ⟨u0, u1, u2, u3, u4, u5, u6, u7, u8⟩, ue, ce, rfl, ⟨p0, p1, p2⟩, ⟨d0, d1, d2⟩, ⟨v0, v1, v2⟩⟩ := hn.fs
  obtain ⟨xs, n, _,_, hl, hxl, hx⟩ := DataW.trod_struct hu h
  rw [hn.cells] at hl
  have hxl : xs.length = 9 := hxl
  have g0 := hx 0 f0 rfl
  have g1 := hx 1 f1 rfl
  have g2 := hx 2 f2 rfl
  have g3 := hx 3 f3 rfl
  have g4 := hx 4 f4 rfl
  have g5 := hx 5 f5 rfl
  have g6 := hx 6 f6 rfl
  have g7 := hx 7 f7 rfl
  have g8 := hx 8 f8 rfl
  rw [List.getElem?_eq_getElem (by omega)] at g0 g1 g2 g3 g4 g5 g6 g7 g8
  rw [o0, c0, one_td cs 0 undef (by omega)] at g0
  rw [o1, c1, one_td cs 1 undef (by omega)] at g1
  rw [o2, c2, one_td cs 2 undef (by omega)] at g2
  rw [o3, c3] at g3
  rw [o4, c4, one_td cs 6 undef (by omega)] at g4
  rw [o5, c5, one_td cs 7 undef (by omega)] at g5
  rw [o6, c6, one_td cs 8 undef (by omega)] at g6
  rw [o7, c7, one_td cs 9 undef (by omega)] at g7
  rw [o8, c8, one_td cs 10 undef (by omega)] at g8
  obtain ⟨k0, e0, _,_⟩ := DataW.trod_int u0 g0
  obtain ⟨k1, e1, _, w1⟩ := DataW.trod_int u1 g1
  obtain ⟨k2, e2, _,_⟩ := DataW.trod_int u2 g2
  obtain ⟨k4, e4, _, w4⟩ := DataW.trod_int u4 g4
  obtain ⟨k5, e5, _,_⟩ := DataW.trod_int u5 g5
  obtain ⟨k6, e6, _,_⟩ := DataW.trod_int u6 g6
  obtain ⟨k7, e7, _,_⟩ := DataW.trod_int u7 g7
  obtain ⟨y, e8, _,_, hr⟩ := trod_bytesS u8 ue ce g8
  obtain ⟨zs, m, _,_, ml, mxl, mx⟩ := DataW.trod_struct u3 g3
  have mxl : zs.length = 3 := mxl
  have h0 := mx 0 q0 rfl
  have h1 := mx 1 q1 rfl
  have h2 := mx 2 q2 rfl
  rw [List.getElem?_eq_getElem (by omega)] at h0 h1 h2
  have hl3 : ((cs.drop 3).take 3).length = 3 := by rw [List.length_take, List.length_drop]; omega
  rw [p0, d0, one_td _ 0 undef (by omega)] at h0
  rw [p1, d1, one_td _ 1 undef (by omega)] at h1
  rw [p2, d2, one_td _ 2 undef (by omega)] at h2
  obtain ⟨r0, s0, _,_⟩ := DataW.trod_int v0 h0
  obtain ⟨r1, s1, _,_⟩ := DataW.trod_int v1 h1
  obtain ⟨r2, s2, _,_⟩ := DataW.trod_int v2 h2
  refine ⟨⟨k0, k1, k2, r0, r1, r2, k4, k5, k6, k7, y⟩, ?_, u64_nn w1, u64_nn w4, hr⟩
  match cs, hl with
  | [b0, b1, b2, b3, b4, b5, b6, b7, b8, b9, b10], _ =>
    have t0 : b0 = .int .i64 k0 := by simpa using e0
    have t1 : b1 = .int .u64 k1 := by simpa using e1
    have t2 : b2 = .int .i64 k2 := by simpa using e2
    have t3 : b3 = .int .i64 r0 := by simpa using s0
    have t4 : b4 = .int .i64 r1 := by simpa using s1
    have t5 : b5 = .int .i64 r2 := by simpa using s2
    have t6 : b6 = .int .u64 k4 := by simpa using e4
    have t7 : b7 = .int .i64 k5 := by simpa using e5
    have t8 : b8 = .int .i64 k6 := by simpa using e6
    have t9 : b9 = .int .i64 k7 := by simpa using e7
    have t10 : b10 = bdV y := by simpa using e8
    rw [t0, t1, t2, t3, t4, t5, t6, t7, t8, t9, t10]; rfl
instance : Inhabited Ce := ⟨ce0⟩
/-- a struct of cells, a key and whole numbers -/
structure CaD (P : Program) (T : TypeId) : Prop where
  cells : P.cellsOf T = 34
  fs : ∃ (fs : Array Field) (f0 f1 f2 : Field) (e0 e1 e2 : TypeId), P.underlying T = some (.struct fs) ∧ fs = #[f0, f1, f2] ∧ (f0.offset = 0 ∧ f1.offset = 1 ∧ f2.offset = 33) ∧ (P.cellsOf f0.type = 1 ∧ P.cellsOf f1.type = 32 ∧ P.cellsOf f2.type = 1) ∧
    (P.underlying f0.type = some (.slice e0) ∧ P.underlying f1.type = some (.array 32 e1) ∧ P.underlying f2.type = some (.slice e2)) ∧ CeD P e0 ∧ (P.underlying e1 = some (.int .u8) ∧ P.cellsOf e1 = 1) ∧ (P.underlying e2 = some (.int .u64) ∧ P.cellsOf e2 = 1)
theorem open_case {r : Reach} {b0 : Nat} {v : Value} {d : DataW H} {ps : List MemPlace} (hn : CaD P t) (hval : Value.okWide P w r b0 t v) (h : DataW.Trod enc P w base (fun _ => true) held t v d ps) :
    ∃ a c cl seed ga gc ns, v = .agg (caC a c cl seed ga gc ns).toArray ∧ CaW w a cl ga ns := by
  obtain ⟨fs, f0, f1, f2, e0, e1, e2, hu, rfl, ⟨o0, o1, o2⟩, ⟨c0, c1, c2⟩, ⟨u0, u1, u2⟩, hce, ⟨ue1, ce1⟩, ue2, ce2⟩ := hn.fs
  obtain ⟨cs, rfl, _⟩ := okWide_struct hu hval
  obtain ⟨fuel, hf⟩ := h
  obtain ⟨xs, n, _,_, hl, hxl, hx⟩ := DataW.trod_struct hu hf
  rw [hn.cells] at hl
  have hxl : xs.length = 3 := hxl
  have g0 := hx 0 f0 rfl
  have g1 := hx 1 f1 rfl
  have g2 := hx 2 f2 rfl
  have hl' : cs.toList.length = 34 := hl
  rw [List.getElem?_eq_getElem (by omega)] at g0 g1 g2
  rw [o0, c0] at g0
  rw [o1, c1] at g1
  rw [o2, c2] at g2
  obtain ⟨a, c, cl, k0, _,_, hr, hcl⟩ := rows_of elCe (by decide) (CeOK w) u0 hce.cells (fun _ _ _ h => trod_ce hce h) g0
  obtain ⟨seed, k1⟩ := trod_bytes u1 ue1 ce1 c1 g1
  obtain ⟨ga, gc, ns, k2, _,_, hg, hns⟩ := u64s_of u2 ue2 ce2 g2
  refine ⟨a, c, cl, seed, ga, gc, ns, congrArg Value.agg ?_, hr, fun y hy => (hcl y hy).2.2, hg, hns, fun y hy => (hcl y hy).2.1, fun y hy => (hcl y hy).1⟩
  obtain ⟨l⟩ := cs
  congr 1
  have e1 : l = (l.drop 0).take 1 ++ ((l.drop 1).take 32 ++ (l.drop 33).take 1) := by
    have hl2 : l.length = 34 := hl'
    rw [List.drop_zero, List.take_of_length_le (l := l.drop 33) (by rw [List.length_drop]; omega)]
    have h3 : (l.drop 1).take 32 ++ l.drop 33 = l.drop 1 := by
      have := List.take_append_drop 32 (l.drop 1)
      rwa [List.drop_drop] at this
    rw [h3, List.take_append_drop]
  have k0' : (l.drop 0).take 1 = [.slice a cl.length c] := k0
  have k1' : (l.drop 1).take 32 = kC seed := k1
  have k2' : (l.drop 33).take 1 = [.slice ga ns.length gc] := k2
  rw [e1, k0', k1', k2']; rfl
end
end Go.Er


/-
  Numbers with all that they need: the plain law.
-/
namespace Go.Er
open Go
/-- rising -/
def Rise (l : List Int) : Prop := l.Pairwise (· < ·)
theorem rise_uniq : ∀ {a b : List Int}, Rise a → Rise b → (∀ x, x ∈ a ↔ x ∈ b) → a = b
  | [], [], _,_,_ => rfl
  | [], y :: b, _,_, h => nomatch (h y).2 List.mem_cons_self
  | x :: a, [], _,_, h => nomatch (h x).1 List.mem_cons_self
  | x :: a, y :: b, ha, hb, h => by
    obtain ⟨ha1, ha2⟩ := List.pairwise_cons.1 ha
    obtain ⟨hb1, hb2⟩ := List.pairwise_cons.1 hb
    have e : x = y := by
      rcases List.mem_cons.1 ((h x).1 List.mem_cons_self) with e | e
      · exact e
      · rcases List.mem_cons.1 ((h y).2 List.mem_cons_self) with e2 | e2
        · exact e2.symm
        · have := hb1 x e; have := ha1 y e2; omega
    subst e
    congr 1
    refine rise_uniq ha2 hb2 fun z => ⟨fun hz => ?_, fun hz => ?_⟩
    · rcases List.mem_cons.1 ((h z).1 (List.mem_cons_of_mem _ hz)) with e | e
      · subst e; have := ha1 z hz; omega
      · exact e
    · rcases List.mem_cons.1 ((h z).2 (List.mem_cons_of_mem _ hz)) with e | e
      · subst e; have := hb1 z hz; omega
      · exact e
theorem rise_nodup {l : List Int} (h : Rise l) : l.Nodup := List.nodup_iff_pairwise_ne.2 (h.imp fun h => Int.ne_of_lt h)
theorem srt_rise {zs : List Int} (h : Srt 0 id 0 zs.length zs) (hd : zs.Nodup) : Rise zs := by
  unfold Rise
  rw [List.pairwise_iff_getElem]
  intro i j hi hj hij
  have h1 := h i j (Nat.zero_le _) hij hj
  have h2 := List.pairwise_iff_getElem.1 (List.nodup_iff_pairwise_ne.1 hd) i j hi hj hij
  have e : ∀ k (hk : k < zs.length), kk (0 : Int) id zs k = zs[k] := fun k hk => by
    show zs.getD k 0 = _
    rw [List.getD_eq_getElem?_getD, List.getElem?_eq_getElem hk]; rfl
  rw [e i hi, e j hj] at h1
  omega
theorem unl_nodup {zs : List Int} (h : zs.Nodup) : Unl (0 : Int) id zs := by
  rw [unl_iff, List.map_id]; exact h
/-- numbers, and what each needs -/
def ClM (nd : Int → List Int) (ns : List Int) (x : Int) : Prop := ∃ n ∈ ns, x = n ∨ x ∈ nd n
theorem clM_take {nd : Int → List Int} {ns : List Int} {i : Nat} {n x : Int} (hn : ns[i]? = some n) : ClM nd (ns.take (i + 1)) x ↔ ClM nd (ns.take i) x ∨ x = n ∨ x ∈ nd n := by
  rw [List.take_add_one, hn]
  constructor
  · rintro ⟨m, h1, h2⟩
    rcases List.mem_append.1 h1 with h1 | h1
    · exact .inl ⟨m, h1, h2⟩
    · rw [List.mem_singleton.1 h1] at h2; exact .inr h2
  · rintro (⟨m, h1, h2⟩ | h)
    · exact ⟨m, List.mem_append_left _ h1, h2⟩
    · exact ⟨n, List.mem_append_right _ (List.mem_singleton.2 rfl), h⟩
theorem clM_nil {nd : Int → List Int} {x : Int} : ¬ ClM nd [] x := fun ⟨_, h, _⟩ => nomatch h
section
variable {g : Getf}
theorem need_succ {f : Nat} {n : Int} : needF g (f + 1) n = [] ∨ ∃ r, needF g (f + 1) n = r :: needF g f r ∧ ∀ k, needF g (k + 1) n = r :: needF g k r := by
  cases hg : g n with
  | none => exact .inl (need_stop (fun c hc => by rw [hg] at hc; cases hc))
  | some c =>
    by_cases h : momK c.kind = true ∧ rightC c ∧ c.kind ≠ 1
    · exact .inr ⟨c.ref, need_on hg h.1 h.2.1 h.2.2, fun k => need_on hg h.1 h.2.1 h.2.2⟩
    · exact .inl (need_stop (fun d hd => by rw [hg] at hd; injection hd with hd; subst hd; exact h))
theorem need_zero {f f' : Nat} {n : Int} (h : needF g (f + 1) n = []) : needF g f' n = [] := by
  cases f' with
  | zero => rfl
  | succ f' =>
    rcases need_succ (g := g) (f := f') (n := n) with h1 | ⟨r, _, h2⟩
    · exact h1
    · rw [h2 f] at h; cases h
/-- a way that ends goes no farther -/
theorem need_short : ∀ (f : Nat) (n : Int), (needF g f n).length < f → ∀ f', f ≤ f' → needF g f' n = needF g f n
  | 0, _, h, _,_ => absurd h (Nat.not_lt_zero _)
  | f + 1, n, h, f', hf => by
    obtain ⟨k, rfl⟩ : ∃ k, f' = k + 1 := ⟨f' - 1, by omega⟩
    rcases need_succ (g := g) (f := f) (n := n) with h1 | ⟨r, h1, h2⟩
    · rw [h1, need_zero h1]
    · rw [h1, List.length_cons] at h
      rw [h1, h2 k, need_short f r (by omega) k (by omega)]
theorem need_in : ∀ (f : Nat) (n : Int), (needF g f n).length < f → ∀ (k : Nat) (r x : Int), f ≤ k → r ∈ needF g f n → x ∈ needF g k r → x ∈ needF g f n
  | 0, _, h, _,_,_,_,_,_ => absurd h (Nat.not_lt_zero _)
  | f + 1, n, h, k, r, x, hk, hr, hx => by
    rcases need_succ (g := g) (f := f) (n := n) with h1 | ⟨q, h1, _⟩
    · rw [h1] at hr; exact nomatch hr
    · rw [h1, List.length_cons] at h
      rw [h1] at hr ⊢
      rcases List.mem_cons.1 hr with rfl | hr
      · rw [need_short f r (by omega) k (by omega)] at hx
        exact List.mem_cons_of_mem _ hx
      · exact List.mem_cons_of_mem _ (need_in f q (by omega) k r x (by omega) hr hx)
theorem close_twice {ns c : List Int} (hc : ∀ x, x ∈ c ↔ ClM (needF g 4) ns x) (hd : ∀ n ∈ ns, (needF g 4 n).length < 4) (x : Int) : ClM (needF g 4) c x ↔ x ∈ c := by
  constructor
  · rintro ⟨m, hm, h⟩
    rcases h with rfl | h
    · exact hm
    · obtain ⟨n, hn, h2⟩ := (hc m).1 hm
      refine (hc x).2 ⟨n, hn, .inr ?_⟩
      rcases h2 with rfl | h2
      · exact h
      · exact need_in 4 n (hd n hn) 4 m x (Nat.le_refl _) h2 h
  · exact fun h => ⟨x, h, .inl rfl⟩
end
theorem need_ref {l : List Ce} : ∀ (k : Nat) (n x : Int), x ∈ needF (findP (l.map ceP)) k n → x ∈ l.map Ce.ref
  | 0, _,_, h => nomatch h
  | k + 1, n, x, h => by
    rw [needF] at h
    cases hg : findP (l.map ceP) n with
    | none => rw [hg] at h; exact nomatch h
    | some c =>
      rw [hg] at h
      have h : x ∈ (if momK c.kind = true ∧ rightC c ∧ c.kind ≠ 1 then c.ref :: needF (findP (l.map ceP)) k c.ref else []) := h
      by_cases hq : momK c.kind = true ∧ rightC c ∧ c.kind ≠ 1
      · rw [if_pos hq] at h
        rcases List.mem_cons.1 h with rfl | h
        · obtain ⟨y, hy, rfl⟩ := List.mem_map.1 (findP_mem hg)
          exact List.mem_map.2 ⟨y, hy, rfl⟩
        · exact need_ref k _ x h
      · rw [if_neg hq] at h; exact nomatch h
/-- how many these are -/
theorem clM_len {nd : Int → List Int} {ns ks U : List Int} (hD : ks.Nodup) (hK : ∀ x ∈ ks, ClM nd ns x) (hU : ∀ n x, x ∈ nd n → x ∈ U) : ks.length ≤ ns.length + U.length := by
  have h := hD.length_le_of_subset (l₂ := ns ++ U) fun x hx => by
    obtain ⟨n, hn, h⟩ := hK x hx
    rcases h with rfl | h
    · exact List.mem_append_left _ hn
    · exact List.mem_append_right _ (hU n x h)
  rwa [List.length_append] at h
section
variable {P : Program} {w : World} {a : Option Addr} {xs : List Int} {j c : Nat}
end
section
variable {pre post : List Value} {off o i : Nat} {cs : List Ce} {z : Ce}
end
theorem take_eq {xs ys : List Int} {i : Nat} (h : xs.take i = ys.take i) (h1 : i < xs.length) (h2 : i < ys.length) (e : xs.getD i 0 = ys.getD i 0) : xs.take (i + 1) = ys.take (i + 1) := by
  rw [List.getD_eq_getElem?_getD, List.getD_eq_getElem?_getD, List.getElem?_eq_getElem h1, List.getElem?_eq_getElem h2] at e
  rw [List.take_succ_eq_append_getElem h1, List.take_succ_eq_append_getElem h2, h]
  congr 1
  exact congrArg (fun z => [z]) e
theorem rise_get {l : List Int} {i j : Nat} (h : Rise l) (hij : i < j) (hj : j < l.length) : l.getD i 0 < l.getD j 0 := by
  rw [List.getD_eq_getElem?_getD, List.getD_eq_getElem?_getD, List.getElem?_eq_getElem (by omega), List.getElem?_eq_getElem hj]
  exact List.pairwise_iff_getElem.1 h i j (by omega) hj hij
theorem getD_in {l : List Int} {i : Nat} (h : i < l.length) : l.getD i 0 ∈ l := by
  rw [List.getD_eq_getElem?_getD, List.getElem?_eq_getElem h]
  exact List.getElem_mem _
theorem ins_take {ks os : List Int} {i : Nat} (h : ∀ x, x ∈ ks ↔ x ∈ os.take i) (hi : i < os.length) (x : Int) : x ∈ ins ks (os.getD i 0) ↔ x ∈ os.take (i + 1) := by
  rw [mem_ins, h x, List.take_succ_eq_append_getElem hi, List.mem_append, List.getD_eq_getElem?_getD, List.getElem?_eq_getElem hi]
  exact or_congr Iff.rfl List.mem_singleton.symm
theorem take_snoc {Q : Int → Prop} {ls : List Int} {i : Nat} (h : ∀ n ∈ ls.take i, Q n) (hi : i < ls.length) (hq : Q (ls.getD i 0)) : ∀ n ∈ ls.take (i + 1), Q n := by
  intro n hn
  rw [List.take_succ_eq_append_getElem hi] at hn
  rcases List.mem_append.1 hn with hn | hn
  · exact h n hn
  · rw [List.mem_singleton.1 hn]
    rw [List.getD_eq_getElem?_getD, List.getElem?_eq_getElem hi] at hq; exact hq
end Go.Er

