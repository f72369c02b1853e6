/-
  Sets of whole numbers, kept as maps to truth values: made, written, asked, counted, ranged over.
-/
import Derived.Test.YtblphhclfloodaaK2
import Derived.Maps.RangeRun
namespace Go.Er
open Go
open Go.ChangeMaps (setBlock)

def mE (l : List Int) : List MapEntry := l.zipIdx.map fun p => { key := .int .u64 p.1, val := .bool true, born := p.2 }
def mapO (l : List Int) : Obj := .map (mE l).toArray l.length
def itO (b : Nat) (l : List Int) (seen : List Nat) : Obj := .mapIter (some b) l.length seen.toArray l.length
/-- a number put into a set -/
def ins (l : List Int) (n : Int) : List Int := if n ∈ l then l else l ++ [n]
theorem mem_ins {l : List Int} {n m : Int} : m ∈ ins l n ↔ m ∈ l ∨ m = n := by
  unfold ins
  split
  · rename_i h
    exact ⟨Or.inl, fun h' => h'.elim id (fun e => e ▸ h)⟩
  · rw [List.mem_append, List.mem_singleton]
theorem ins_nodup {l : List Int} {n : Int} (h : l.Nodup) : (ins l n).Nodup := by
  unfold ins
  split
  · exact h
  · rename_i hn
    rw [List.nodup_append]
    refine ⟨h, by simp, ?_⟩
    intro a ha b hb e
    rw [List.mem_singleton] at hb
    exact hn (hb ▸ e ▸ ha)
theorem ins_length (l : List Int) (n : Int) : (ins l n).length ≤ l.length + 1 := by
  unfold ins
  split
  · omega
  · simp
theorem mE_length (l : List Int) : (mE l).length = l.length := by simp [mE]
theorem mE_snoc (l : List Int) (n : Int) : mE (l ++ [n]) = mE l ++ [{ key := .int .u64 n, val := .bool true, born := l.length }] := by
  simp [mE, List.zipIdx_append]
theorem mE_get {l : List Int} {i : Nat} {e : MapEntry} (h : (mE l)[i]? = some e) : ∃ n, l[i]? = some n ∧ e = { key := .int .u64 n, val := .bool true, born := i } := by
  simp only [mE, List.getElem?_map, List.getElem?_zipIdx, Nat.zero_add] at h
  cases hl : l[i]? with
  | none => rw [hl] at h; cases h
  | some n =>
    rw [hl] at h
    simp only [Option.map_some, Option.some.injEq] at h
    exact ⟨n, rfl, h.symm⟩
theorem mE_mem {l : List Int} {e : MapEntry} (h : e ∈ mE l) : ∃ i n, l[i]? = some n ∧ e = { key := .int .u64 n, val := .bool true, born := i } := by
  obtain ⟨i, hi, he⟩ := List.getElem_of_mem h
  have h' : (mE l)[i]? = some e := by rw [List.getElem?_eq_getElem hi, he]
  obtain ⟨n, hn, e'⟩ := mE_get h'
  exact ⟨i, n, hn, e'⟩
theorem mE_born (l : List Int) : (mE l).map (·.born) = List.range l.length := by
  have h : ∀ (l : List Int) (k : Nat), (l.zipIdx k).map (fun p => p.2) = List.range' k l.length := by
    intro l
    induction l with
    | nil => intro k; rfl
    | cons x xs ih => intro k; rw [List.zipIdx_cons, List.map_cons, ih, List.length_cons, List.range'_succ]
  rw [mE, List.map_map, List.range_eq_range']
  exact h l 0
def eOf (p : Int × Nat) : MapEntry := { key := .int .u64 p.1, val := .bool true, born := p.2 }
theorem find_none {n : Int} : ∀ {l : List Int} (k j : Nat), n ∉ l → Instr.findNow (.int .u64) (.int .u64 n) ((l.zipIdx k).map eOf) j = some none
  | [], _, _, _ => rfl
  | x :: l, k, j, h => by
    have hx : n ≠ x := fun e => h (e ▸ List.mem_cons_self)
    have hb : (n == x) = false := by rw [beq_eq_false_iff_ne]; exact hx
    rw [List.zipIdx_cons, List.map_cons]
    simp only [Instr.findNow, eOf, Instr.sameNow, if_true, hb]
    exact find_none (k + 1) (j + 1) (fun hm => h (List.mem_cons_of_mem _ hm))
theorem find_some {n : Int} : ∀ {l : List Int} (k j : Nat), n ∈ l → ∃ i, l[i]? = some n ∧ Instr.findNow (.int .u64) (.int .u64 n) ((l.zipIdx k).map eOf) j = some (some (j + i, .bool true))
  | x :: l, k, j, h => by
    rw [List.zipIdx_cons, List.map_cons]
    by_cases hx : n = x
    · subst hx
      refine ⟨0, rfl, ?_⟩
      simp only [Instr.findNow, eOf, Instr.sameNow, if_true, BEq.rfl, Nat.add_zero]
    · have hb : (n == x) = false := by rw [beq_eq_false_iff_ne]; exact hx
      obtain ⟨i, hi, hf⟩ := find_some (l := l) (k + 1) (j + 1) ((List.mem_cons.1 h).resolve_left hx)
      refine ⟨i + 1, hi, ?_⟩
      simp only [Instr.findNow, eOf, Instr.sameNow, if_true, hb]
      have e : j + (i + 1) = j + 1 + i := by omega
      rw [e]; exact hf

section
variable {P : Program} {w0 w : World} {X : List Nat} {L : List (Nat × Obj)} {l : Fr} {d : Option Tmp} {ty : TypeId} {pos : String} {after : Array Edge} {g : Option (Nat × Bool)}
  {x y z : Operand} {T K E : TypeId} {b r : Nat} {ls : List Int} {n : Int}
theorem run_check (hk : Und P K (.int .u64)) (e : Bool) (w : World) : (Instr.checkKey e 10000 K (.int .u64 n)).run P w = .ok () w := by
  have h : ∀ m : Nat, (Instr.checkKey e (m + 1) K (.int .u64 n)).run P w = .ok () w := fun m => by simp [Instr.checkKey, hk w]
  exact h 9999
theorem run_get (hb : w.heap[b]? = some (mapO ls)) : (getObj b).run P w = .ok (.map (mE ls).toArray ls.length) w := by
  have hb' : w.heap[b]? = some (.map (mE ls).toArray ls.length) := hb
  simp [getObj, Sem.run, hb']
theorem run_findK (hk : Und P K (.int .u64)) (w : World) : (Instr.findKey K (.int .u64 n) (mE ls)).run P w = .ok (if n ∈ ls then ((Instr.findNow (.int .u64) (.int .u64 n) (mE ls) 0).getD none) else none) w := by
  by_cases h : n ∈ ls
  · obtain ⟨i, _, hf⟩ := find_some (n := n) (l := ls) 0 0 h
    have hf' : Instr.findNow (.int .u64) (.int .u64 n) (mE ls) 0 = some (some (0 + i, .bool true)) := hf
    simp [Instr.findKey, hk w, hf', h]
  · have hf : Instr.findNow (.int .u64) (.int .u64 n) (mE ls) 0 = some none := find_none 0 0 h
    simp [Instr.findKey, hk w, hf, h]
theorem m_makeMap (H : St w0 X w L) : ∃ w' b, (execOp (evl l) ⟨d, .makeMap T none, ty, pos, after, g⟩).run P w = .ok (.value (.map (some b))) w' ∧ St w0 X w' ((b, mapO []) :: L) := by
  refine ⟨_, w.heap.size, ?_, H.alloc (mapO [])⟩
  simp [execOp, Instr.makeMap, mapO, mE]
theorem r_lookup (hu : Und P T (.map K E)) (hk : Und P K (.int .u64)) (hz : Zero P E (.bool false)) (hx : evl l x = .map (some b)) (hy : evl l y = .int .u64 n) (hb : w.heap[b]? = some (mapO ls)) :
    (execOp (evl l) ⟨d, .lookup T x y false, ty, pos, after, g⟩).run P w = .ok (.value (.bool (decide (n ∈ ls)))) w := by
  have hf := run_findK (P := P) (n := n) (ls := ls) hk w
  by_cases h : n ∈ ls
  · obtain ⟨i, _, hg⟩ := find_some (n := n) (l := ls) 0 0 h
    have hg' : Instr.findNow (.int .u64) (.int .u64 n) (mE ls) 0 = some (some (0 + i, .bool true)) := hg
    rw [if_pos h, hg'] at hf
    simp [execOp, Instr.lookup, hu w, hx, hy, run_get hb, run_check hk, hf, h]
  · rw [if_neg h] at hf
    simp [execOp, Instr.lookup, hu w, hx, hy, run_get hb, run_check hk, hf, h, hz w]
theorem r_lenMap {args : List Operand} {rest : List TypeId} (hu : Und P T (.map K E)) (ha : Evs l args [.map (some b)]) (hb : w.heap[b]? = some (mapO ls)) :
    (execOp (evl l) ⟨d, .call ⟨.builtin .len, args.toArray, (T :: rest).toArray⟩, ty, pos, after, g⟩).run P w = .ok (.value (.int .i64 ls.length)) w := by
  simp [execOp, resolve, invoke, builtin, Builtin.len_, ha.map, hu w, goInt, run_get hb, mE_length]
theorem set_heap {w : World} {b : Nat} {o o' : Obj} (hb : w.heap[b]? = some o) : (setBlock w b o').heap[b]? = some o' := by
  have hlt : b < w.heap.size := by
    rcases Nat.lt_or_ge b w.heap.size with h | h
    · exact h
    · simp [Array.getElem?_eq_none h] at hb
  simp [setBlock, hlt]
theorem set_other {w : World} {b c : Nat} {o' : Obj} (h : c ≠ b) : (setBlock w b o').heap[c]? = w.heap[c]? := by
  simp only [setBlock, Array.getElem?_setIfInBounds]
  rw [if_neg (by omega)]
theorem St.setB {o o' : Obj} (h : St w0 X w L) (k : Nat) (hk : L[k]? = some (b, o)) : St w0 X (setBlock w b o') (L.set k (b, o')) :=
  h.put k hk rfl rfl rfl rfl (by simp [setBlock]) (set_heap (h.at k hk)) (fun _ hc => set_other hc)
theorem run_setMap {es : Array MapEntry} {c : Nat} {o' : Obj} (hb : w.heap[b]? = some (.map es c)) : (setObj b o').run P w = .ok () (setBlock w b o') := by
  simp [setObj, Sem.run, hb, setBlock]
theorem m_mapUpdate (H : St w0 X w L) (k : Nat) (hu : Und P T (.map K E)) (hk : Und P K (.int .u64)) (hx : evl l x = .map (some b)) (hy : evl l y = .int .u64 n) (hv : evl l z = .bool true) (hL : L[k]? = some (b, mapO ls)) :
    ∃ w', (execOp (evl l) ⟨d, .mapUpdate T x y z, ty, pos, after, g⟩).run P w = .ok .skip w' ∧ St w0 X w' (L.set k (b, mapO (ins ls n))) := by
  have hb := H.at k hL
  have hf := run_findK (P := P) (n := n) (ls := ls) hk w
  refine ⟨setBlock w b (mapO (ins ls n)), ?_, H.setB k hL⟩
  by_cases h : n ∈ ls
  · obtain ⟨i, hi, hg⟩ := find_some (n := n) (l := ls) 0 0 h
    have hg' : Instr.findNow (.int .u64) (.int .u64 n) (mE ls) 0 = some (some (i, .bool true)) := by rw [Nat.zero_add] at hg; exact hg
    rw [if_pos h, hg'] at hf
    have hil : i < ls.length := by
      rcases Nat.lt_or_ge i ls.length with h' | h'
      · exact h'
      · rw [List.getElem?_eq_none h'] at hi; cases hi
    have hm : (mE ls)[i]? = some { key := .int .u64 n, val := .bool true, born := i } := by
      simp [mE, List.getElem?_map, List.getElem?_zipIdx, hi]
    have he : (mE ls).modify i (fun e => { key := .int .u64 n, val := .bool true, born := e.born }) = mE ls := by
      apply List.ext_getElem?
      intro j
      rw [List.getElem?_modify]
      split
      · rename_i hj
        subst hj
        simp [hm]
      · simp
    have hi2 : ins ls n = ls := by unfold ins; rw [if_pos h]
    have hset := run_setMap (P := P) (o' := mapO (ins ls n)) hb
    rw [hi2] at hset ⊢
    have hs : Instr.sameBits 10000 (.int .u64 n) (.int .u64 n) = true := by simp [Instr.sameBits]
    have hks : (Instr.keyThatStays (.int .u64 n) (.int .u64 n)).run P w = .ok (.int .u64 n) w := by simp [Instr.keyThatStays, hs]
    simp only [mapO] at hset
    simp [execOp, Instr.mapUpdate, hu w, hx, hy, hv, run_get hb, mapO, run_check hk, hf, hm, hks]
    rw [he, hset]; rfl
  · have hi2 : ins ls n = ls ++ [n] := by unfold ins; rw [if_neg h]
    rw [if_neg h] at hf
    have hset := run_setMap (P := P) (o' := mapO (ins ls n)) hb
    rw [hi2] at hset ⊢
    simp only [mapO, mE_snoc, List.length_append, List.length_singleton] at hset
    simp [execOp, Instr.mapUpdate, hu w, hx, hy, hv, run_get hb, mapO, run_check hk, hf, mE_snoc]
    rw [hset]; rfl
/-! ### Ranging over a set -/
theorem m_range (H : St w0 X w L) (hu : Und P T (.map K E)) (hx : evl l x = .map (some b)) (hb : w.heap[b]? = some (mapO ls)) :
    ∃ w' r, (execOp (evl l) ⟨d, .range T x, ty, pos, after, g⟩).run P w = .ok (.value (.pointer (some ⟨r, 0, none⟩))) w' ∧ St w0 X w' ((r, itO b ls []) :: L) := by
  refine ⟨_, w.heap.size, ?_, H.alloc (itO b ls [])⟩
  simp [execOp, Instr.range, hu w, hx, run_get hb, itO]
/-- how many are left -/
def leftN (m : Nat) (seen : List Nat) : Nat := ((List.range m).filter fun i => !seen.contains i).length
theorem leftN_lt {m i : Nat} {seen : List Nat} (hi : i < m) (hs : i ∉ seen) : leftN m (seen ++ [i]) < leftN m seen := by
  unfold leftN
  have hp : ∀ l : List Nat, (l.filter fun j => !(seen ++ [i]).contains j).length ≤ (l.filter fun j => !seen.contains j).length := by
    intro l
    induction l with
    | nil => simp
    | cons x xs ih =>
      rw [List.filter_cons, List.filter_cons]
      by_cases h1 : x ∈ seen
      · have a1 : (!(seen ++ [i]).contains x) = false := by simp [h1]
        have a2 : (!seen.contains x) = false := by simp [h1]
        rw [a1, a2]; exact ih
      · have a2 : (!seen.contains x) = true := by simp [h1]
        rw [a2]
        split
        · simpa using ih
        · simp only [if_true, List.length_cons]; omega
  have key : ∀ l : List Nat, i ∈ l → (l.filter fun j => !(seen ++ [i]).contains j).length < (l.filter fun j => !seen.contains j).length := by
    intro l
    induction l with
    | nil => intro h; cases h
    | cons x xs ih =>
      intro h
      rw [List.filter_cons, List.filter_cons]
      by_cases hx : x = i
      · subst hx
        have a1 : (!(seen ++ [x]).contains x) = false := by simp
        have a2 : (!seen.contains x) = true := by simp [hs]
        rw [a1, a2]
        have := hp xs
        simp only [Bool.false_eq_true, if_false, if_true, List.length_cons]
        omega
      · have ih' := ih ((List.mem_cons.1 h).resolve_left (fun e => hx e.symm))
        by_cases h1 : x ∈ seen
        · have a1 : (!(seen ++ [i]).contains x) = false := by simp [h1]
          have a2 : (!seen.contains x) = false := by simp [h1]
          rw [a1, a2]; exact ih'
        · have a1 : (!(seen ++ [i]).contains x) = true := by simp [h1, hx]
          have a2 : (!seen.contains x) = true := by simp [h1]
          rw [a1, a2]; simpa using ih'
  exact key _ (List.mem_range.2 hi)
theorem m_next (H : St w0 X w L) (k : Nat) {seen : List Nat} (hx : evl l x = .pointer (some ⟨r, 0, none⟩)) (hL : L[k]? = some (r, itO b ls seen)) (hb : w.heap[b]? = some (mapO ls)) :
    ∃ v w', (execOp (evl l) ⟨d, .next x false, ty, pos, after, g⟩).run P w = .ok (.value v) w' ∧
      ∃ (more : Bool) (rest : List Value) (seen' : List Nat), v = .tuple (.bool more :: rest).toArray ∧ (more = true → ∃ i n, ls[i]? = some n ∧ i ∉ seen ∧ seen' = seen ++ [i]) ∧ St w0 X w' (L.set k (r, itO b ls seen')) := by
  have hr := H.at k hL
  have hold : ∀ e ∈ (mE ls).toArray.toList, e.born < ls.length := by
    intro e he
    obtain ⟨i, n, hi, rfl⟩ := mE_mem (by simpa using he)
    rcases Nat.lt_or_ge i ls.length with h' | h'
    · exact h'
    · rw [List.getElem?_eq_none h'] at hi; cases hi
  rcases run_next_at (P := P) w ty r b ls.length ls.length seen.toArray (mE ls).toArray ls.length hr hb hold (Nat.le_refl _) with ⟨_, hrun⟩ | ⟨e, he, w1, hw1, hrun⟩
  · refine ⟨_, w, ?_, false, [], seen, rfl, (fun h => nomatch h), ?_⟩
    · simp [execOp, hx, hrun]
    · have e : L.set k (r, itO b ls seen) = L := by
        apply List.ext_getElem?
        intro j
        rw [List.getElem?_set]
        split
        · rename_i hj; subst hj
          split
          · exact hL.symm
          · rename_i h2; rw [List.getElem?_eq_none (by omega)] at hL; cases hL
        · rfl
      rw [e]; exact H
  · have he' : e ∈ mE ls ∧ e.born ∉ seen := by
      unfold leftOf at he
      simpa using he
    obtain ⟨i, n, hi, rfl⟩ := mE_mem he'.1
    refine ⟨_, setBlock w1 r (.mapIter (some b) ls.length (seen.toArray.push i) ls.length), ?_, true, [.int .u64 n, .bool true], seen ++ [i], rfl, fun _ => ⟨i, n, hi, he'.2, rfl⟩, ?_⟩
    · simp [execOp, hx, hrun]
    · have H1 : St w0 X w1 L := by
        rcases hw1 with rfl | rfl
        · exact H
        · exact H.drew (Nat.le_succ _)
      have h2 := H1.setB (o' := itO b ls (seen ++ [i])) k hL
      have e2 : (itO b ls (seen ++ [i])) = .mapIter (some b) ls.length (seen.toArray.push i) ls.length := by
        unfold itO; simp
      rw [← e2]; exact h2
theorem r_entry {seen : List Nat} {i : Nat} (hx : evl l x = .pointer (some ⟨r, 0, none⟩)) (hr : w.heap[r]? = some (itO b ls (seen ++ [i]))) (hb : w.heap[b]? = some (mapO ls)) (hi : ls[i]? = some n) :
    (execOp (evl l) ⟨d, .entry x, ty, pos, after, g⟩).run P w = .ok (.value (.tuple [.int .u64 n, .bool true].toArray)) w := by
  have hm : (mE ls)[i]? = some { key := .int .u64 n, val := .bool true, born := i } := by
    simp [mE, List.getElem?_map, List.getElem?_zipIdx, hi]
  have hr' : w.heap[r]? = some (.mapIter (some b) ls.length (seen.toArray.push i) ls.length) := by
    rw [hr]; unfold itO; simp
  have hn : ((mE ls).toArray.toList.map (·.born)).Nodup := by
    have := mE_born ls
    simp only [this]
    exact List.nodup_range
  have h := run_entry_at (P := P) w r b ls.length seen.toArray (mE ls).toArray ls.length { key := .int .u64 n, val := .bool true, born := i } hr' hb (by simpa using List.mem_of_getElem? hm) hn
  simp [execOp, hx, h]
end
end Go.Er
