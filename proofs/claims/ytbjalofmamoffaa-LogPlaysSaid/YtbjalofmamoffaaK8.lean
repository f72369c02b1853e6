/-
  copy, clear, append in place and of made elements; slices.overlaps.
-/
import Derived.Test.YtbjalofmamoffaaD8
import Derived.Test.YtbjalofmamoffaaD9
import Derived.Laws.Externs
import Derived.Lib.Overlaps
namespace Go.Er
open Go

section
variable {P : Program} {w0 w : World} {X : List Nat} {L L' : List (Nat × Obj)} {l : Fr} {d : Option Tmp} {ty : TypeId} {pos : String} {after : Array Edge} {g : Option (Nat × Bool)}
  {T T2 E : TypeId} {D2 : TypeDesc} {b off sz n m cap dl dc : Nat} {cs cs' xs sp vs : List Value} {x z : Value} {ti : TypeInfo} {args : List Operand}

theorem m_copy (H : St w0 X w L) (k : Nat) (hu : Und P T (.slice E)) (hs : Size P E sz) (ha : Evs l args [.slice (some ⟨b, off, none⟩) dl dc, x]) (hlen : (Builtin.lenOf x).run P w = .ok m w) (hmn : Nat.min m dl = n)
    (hcl : (Builtin.firstCells sz n x).run P w = .ok vs.toArray w) (h1 : ∀ v ∈ vs, v.oneCell' = true) (hk : L[k]? = some (b, .cells cs.toArray E (0, 0))) (ho : off + vs.length ≤ cs.length) (hset : splice cs off vs = cs') :
    ∃ v w', (execOp (evl l) ⟨d, .call ⟨.builtin .copy, args.toArray, [T, T2].toArray⟩, ty, pos, after, g⟩).run P w = .ok (.value v) w' ∧ St w0 X w' (L.set k (b, .cells cs'.toArray E (0, 0))) := by
  subst hset
  have hb := H.at k hk
  have hst := run_storeCells_at (P := P) b off E vs 0 cs.toArray w hb (by simpa using ho) h1
  refine ⟨.int .i64 (n : Int), w.setRow b (splice cs off vs).toArray, ?_, H.setRow k _ hk⟩
  have hrun : (execOp (evl l) ⟨d, .call ⟨.builtin .copy, args.toArray, [T, T2].toArray⟩, ty, pos, after, g⟩).run P w = ((Builtin.copy_ #[T, T2] ty #[.slice (some ⟨b, off, none⟩) dl dc, x]).run P w).andThen fun v w' => .ok (.value v) w' := by
    simp [execOp, resolve, invoke, builtin, ha.map]
  rw [hrun]
  simp only [Nat.add_zero] at hst
  simp only [Builtin.copy_, List.getElem?_toArray, List.getElem?_cons_zero, List.getElem?_cons_succ, Sem.run_bind, hu w, Result.andThen_ok, hlen, hmn, hs w, hcl, hst, Sem.run_pure, splice]
  rfl
theorem m_clear (H : St w0 X w L) (k : Nat) (hu : Und P T (.slice E)) (hz : Zero P E z) (ha : Evs l args [.slice (some ⟨b, off, none⟩) n dc]) (hvs : (Builtin.zeroCells z.cells n).toList = vs) (h1 : ∀ v ∈ vs, v.oneCell' = true)
    (hk : L[k]? = some (b, .cells cs.toArray E (0, 0))) (ho : off + vs.length ≤ cs.length) (h0 : 0 < n) (hset : splice cs off vs = cs') :
    ∃ v w', (execOp (evl l) ⟨d, .call ⟨.builtin .clear, args.toArray, [T].toArray⟩, ty, pos, after, g⟩).run P w = .ok (.value v) w' ∧ St w0 X w' (L.set k (b, .cells cs'.toArray E (0, 0))) := by
  subst hvs hset
  have hb := H.at k hk
  have hst := run_storeCells_at (P := P) b off E (Builtin.zeroCells z.cells n).toList 0 cs.toArray w hb (by simpa using ho) h1
  refine ⟨.tuple #[], w.setRow b (splice cs off (Builtin.zeroCells z.cells n).toList).toArray, ?_, H.setRow k _ hk⟩
  have hrun : (execOp (evl l) ⟨d, .call ⟨.builtin .clear, args.toArray, [T].toArray⟩, ty, pos, after, g⟩).run P w = ((Builtin.clear_ #[T] ty #[.slice (some ⟨b, off, none⟩) n dc]).run P w).andThen fun v w' => .ok (.value v) w' := by
    simp [execOp, resolve, invoke, builtin, ha.map]
  rw [hrun]
  simp only [Nat.add_zero] at hst
  obtain ⟨n', rfl⟩ : ∃ n', n = n' + 1 := ⟨n - 1, by omega⟩
  simp only [Builtin.clear_, List.getElem?_toArray, List.getElem?_cons_zero, Sem.run_bind, hu w, Result.andThen_ok, hz w, hst, Sem.run_pure, splice]
/-- append, where there is room -/
theorem m_append_fit (H : St w0 X w L) (k : Nat) (hu : Und P T (.slice E)) (hu2 : Und P T2 D2) (hD : ∀ q, D2 ≠ .int q) (hs : Size P E sz)
    (hk : L[k]? = some (b, .cells cs.toArray E (0, 0))) (hcap : cap * sz ≤ cs.length) (hfit : n + m ≤ cap) (ha : Evs l args [.slice (some ⟨b, 0, none⟩) n cap, x]) (hx : Src P w sz x m vs) (hset : splice cs (n * sz) vs = cs') :
    ∃ v w', (execOp (evl l) ⟨d, .call ⟨.builtin .append, args.toArray, [T, T2].toArray⟩, ty, pos, after, g⟩).run P w = .ok (.value v) w' ∧
      v = .slice (some ⟨b, 0, none⟩) (n + m) cap ∧ St w0 X w' (L.set k (b, .cells cs'.toArray E (0, 0))) := by
  subst hset
  have hb := H.at k hk
  have hrun : (execOp (evl l) ⟨d, .call ⟨.builtin .append, args.toArray, [T, T2].toArray⟩, ty, pos, after, g⟩).run P w = ((Builtin.append_ #[T, T2] ty #[.slice (some ⟨b, 0, none⟩) n cap, x]).run P w).andThen fun v w' => .ok (.value v) w' := by
    simp [execOp, resolve, invoke, builtin, ha.map]
  have hl := hx.len
  have hsz := hx.size
  have hlen : n * sz + vs.length ≤ cs.length := by
    rw [hsz, ← Nat.add_mul]
    exact Nat.le_trans (Nat.mul_le_mul_right _ hfit) hcap
  have hst := run_storeCells_at (P := P) b (n * sz) E vs 0 cs.toArray w hb (by simpa using hlen) hx.one
  simp only [Nat.add_zero] at hst
  refine ⟨_, w.setRow b (splice cs (n * sz) vs).toArray, ?_, rfl, H.setRow k _ hk⟩
  rw [hrun]
  have hadd : (⟨b, 0, none⟩ : Addr).add (n * sz) = ⟨b, n * sz, none⟩ := by rw [addr_add, Nat.zero_add]
  simp [Builtin.append_, hu w, hu2 w, hs w, hl, hfit, hx.cells w.drawn, hadd, hst, splice]
/-- append of m made elements, where there is no room -/
theorem m_append_zeros {q : IntKind} (H : St w0 X w L) (k : Nat) (hu : Und P T (.slice E)) (hu2 : Und P T2 (.int .i64)) (hs : Size P E sz) (hz : Zero P E z) (hzs : z.cells.size = sz) (hi : ∀ w, (typeInfo E).run P w = .ok ti w)
    (hk : L[k]? = some (b, .cells (xs ++ sp).toArray E (0, 0))) (hn : xs.length = n * sz) (hno : cap < n + m) (hby : 0 < ti.bytes) (hsz0 : 0 < sz) (hm : 0 < m) (hm2 : m ≤ 1000000000) (hroom : (n + m) * ti.bytes ≤ 140737488355328)
    (ha : Evs l args [.slice (some ⟨b, 0, none⟩) n cap, .int q (m : Int)]) :
    ∃ v w', (execOp (evl l) ⟨d, .call ⟨.builtin .append, args.toArray, [T, T2].toArray⟩, ty, pos, after, g⟩).run P w = .ok (.value v) w' ∧
      ∃ b' cap' sp', v = .slice (some ⟨b', 0, none⟩) (n + m) cap' ∧ cap' * sz ≤ (xs ++ (Builtin.zeroCells z.cells m).toList ++ sp').length ∧ n + m ≤ cap' ∧ St w0 X w' ((b', .cells (xs ++ (Builtin.zeroCells z.cells m).toList ++ sp').toArray E (0, 0)) :: L) := by
  have hb := H.at k hk
  have hrun : (execOp (evl l) ⟨d, .call ⟨.builtin .append, args.toArray, [T, T2].toArray⟩, ty, pos, after, g⟩).run P w = ((Builtin.append_ #[T, T2] ty #[.slice (some ⟨b, 0, none⟩) n cap, .int q (m : Int)]).run P w).andThen fun v w' => .ok (.value v) w' := by
    simp [execOp, resolve, invoke, builtin, ha.map]
  have hgrow := growslice_fits (need := n + m) (old := cap) (bytes := ti.bytes) (by omega) hroom
  let qn := Question.appendCap (n + m) cap E
  let nc := qn.cut (w.tape w.drawn qn)
  have hnc : n + m ≤ nc := Nat.le_add_right _ _
  let w1 : World := { w with drawn := w.drawn + 1 }
  let rest := (Builtin.zeroCells z.cells (nc - (n + m))).toList
  have H1 : St w0 X w1 L := H.drew (Nat.le_succ _)
  have H2 := H1.alloc (.cells (xs ++ (Builtin.zeroCells z.cells m).toList ++ rest).toArray E (0, 0))
  refine ⟨.slice (some ⟨w.heap.size, 0, none⟩) (n + m) nc, { w1 with heap := w1.heap.push (.cells (xs ++ (Builtin.zeroCells z.cells m).toList ++ rest).toArray E (0, 0)) }, ?_, w.heap.size, nc, rest, rfl, ?_, hnc, H2⟩
  · rw [hrun]
    have hold1 : (Builtin.firstCells sz n (.slice (some ⟨b, 0, none⟩) n cap)).run P w1 = .ok xs.toArray w1 := by
      simp only [Builtin.firstCells]
      exact run_loadRow (H1.at k hk) (by rw [List.drop_zero, List.take_append, List.take_of_length_le (by omega)]; have : n * sz - xs.length = 0 := by omega
                                         rw [this]; simp) hn
    have hch : (choose (.appendCap (n + m) cap E)).run P w = .ok nc w1 := by rw [run_choose, if_neg (by simp [Question.forced])]
    have hg2 : ¬ Builtin.nextslicecap (n + m) cap * ti.bytes > 2 ^ 48 := by
      have : (2 : Nat) ^ 48 = 281474976710656 := by decide
      omega
    have hz1 := hz w1
    have hfit : ¬ n + m ≤ cap := by omega
    have hw : IntKind.i64.wrap (m : Int) = (m : Int) := w_i64 (by omega) (by omega)
    have hmb : m * ti.bytes ≤ 140737488355328 := Nat.le_trans (Nat.mul_le_mul_right _ (Nat.le_add_left m n)) hroom
    have c0 : ¬ ((m : Int) < 0) := by omega
    have c2 : ¬ ((m : Int) * (ti.bytes : Int) > 2 ^ 48) := by
      have h48 : (2 : Int) ^ 48 = 281474976710656 := by decide
      have : (m : Int) * (ti.bytes : Int) = ((m * ti.bytes : Nat) : Int) := by simp
      omega
    have c3 : ¬ (m * sz = 0) := by
      have := Nat.mul_pos hm hsz0
      omega
    have c1 : ¬ (((n + m : Nat) : Int) > IntKind.i64.max ∧ (True ∨ ti.bytes = 0)) := by
      rintro ⟨h, _⟩
      have h2 : IntKind.i64.max = 9223372036854775807 := rfl
      have h3 : (n + m) * 1 ≤ (n + m) * ti.bytes := Nat.mul_le_mul_left _ hby
      omega
    have hasint : (asInt (Value.int q (m : Int))).run P w = .ok (m : Int) w := by simp [asInt, asIntOf]
    simp only [Builtin.append_, List.getElem?_toArray, List.getElem?_cons_zero, List.getElem?_cons_succ, Sem.run_bind, hu w, hu2 w, hs w, hi w, Result.andThen_ok, Sem.run_pure, hasint, hw, Sem.run_ite, if_true, if_neg c0, if_neg c2, Int.toNat_natCast, if_neg hfit]
    rw [if_neg c1]
    simp only [Result.andThen_ok, if_neg hg2, hch, hi w1, run_askRoom, hold1, Bool.not_true, Bool.false_eq_true, if_false, if_neg c3, hz1, newRow, Sem.run_bind, run_newObj, Sem.run_pure]
    simp [rest, w1]
    congr 2
    rw [← Array.toList_inj]
    simp
  · simp only [List.length_append, rest, Array.length_toList, zeroCells_size, hzs, hn]
    rw [← Nat.add_mul, ← Nat.add_mul]
    exact Nat.mul_le_mul_right _ (by omega)
theorem r_cap {a : Option Addr} (hu : Und P T (.slice E)) (ha : Evs l args [.slice a n cap]) : (execOp (evl l) ⟨d, .call ⟨.builtin .cap, args.toArray, [T].toArray⟩, ty, pos, after, g⟩).run P w = .ok (.value (.int .i64 cap)) w := by
  simp [execOp, resolve, invoke, builtin, ha.map, Builtin.cap_, hu w]
  try rfl
/-- slices.overlaps, of two blocks of one's own kind -/
theorem r_apart {f : FuncId} {fn : Func} {va vb : Nat} {TB : TypeId} {ca cb : List Value} {TA : TypeId} {oa ob la lb xa xb : Nat} {at_ : Array TypeId} (hf : P.funcs[f]? = some fn) (hname : (fn.name == "runtime.NumGoroutine") = false) (hbd : fn.body.isNone = true) (hn : Extern.findNext fn = none) (he : Extern.find fn = some (Extern.SlicesOverlaps.overlaps #[T, T] #[T2]))
    (hu : P.underlying T = some (.slice E)) (hs : Size P E sz) (ha : Evs l args [.slice (some ⟨va, oa, none⟩) la xa, .slice (some ⟨vb, ob, none⟩) lb xb]) (hne : va ≠ vb) (h1 : w.heap[va]? = some (.cells ca.toArray TA (0, 0))) (h2 : w.heap[vb]? = some (.cells cb.toArray TB (0, 0))) (h3 : 0 < cb.length) :
    (execOp (evl l) ⟨d, .call ⟨.value (.func f), args.toArray, at_⟩, ty, pos, after, g⟩).run P w = .ok (.value (.bool false)) w := by
  have hrun : (execOp (evl l) ⟨d, .call ⟨.value (.func f), args.toArray, at_⟩, ty, pos, after, g⟩).run P w = (callFunc f #[.slice (some ⟨va, oa, none⟩) la xa, .slice (some ⟨vb, ob, none⟩) lb xb]).run P w := by
    simp [execOp, resolve, invoke, evl, Deferred.ofValue, ha.map]
  rw [hrun, run_callFunc_extern hf hname hbd hn he, Lib.run_overlaps_apart w T T2 E hu sz hs ⟨va, oa, none⟩ ⟨vb, ob, none⟩ la xa lb xb hne TA TB ca.length cb.length (by simp [World.shape?, h1]) (by simp [World.shape?, h2]) (by omega) (by simp [World.frozen?, h1]) (by simp [World.frozen?, h1])]
  rfl
end

/-! ### The cells of Delete and Insert -/
theorem splice_at {A B vs : List Value} {off : Nat} (h : A.length = off) : splice (A ++ B) off vs = A ++ (vs ++ B.drop vs.length) := by
  subst h
  simp [splice, List.drop_append]
theorem splice_length' {cs vs : List Value} {off : Nat} (h : off + vs.length ≤ cs.length) : (splice cs off vs).length = cs.length := splice_length h
theorem hs_part (ys : List Held) (sp : List Value) (i : Nat) : hsC ys ++ sp = hsC (ys.take i) ++ (hsC (ys.drop i) ++ sp) := by
  rw [← List.append_assoc, ← hsC_append, List.take_append_drop]
theorem hs_take_len {ys : List Held} {i : Nat} (hi : i ≤ ys.length) : (hsC (ys.take i)).length = i * 34 := by rw [hsC_length, List.length_take]; omega
/-- a part of a row, behind number i -/
theorem src_drop {P : Program} {w : World} {b c n i : Nat} {o : Option Addr} {ys : List Held} {sp : List Value} {E : TypeId} (hb : w.heap[b]? = some (.cells (hsC ys ++ sp).toArray E (0, 0))) (hn : n = ys.length - i) (ho : o = cutA (some ⟨b, 0, none⟩) 34 c i) (hc : ys.length ≤ c) (hi : i ≤ ys.length) (c' : Nat) : Src P w 34 (.slice o n c') n (hsC (ys.drop i)) := by
  subst hn
  have hl : (hsC (ys.drop i)).length = (ys.length - i) * 34 := by rw [hsC_length, List.length_drop]; omega
  refine ⟨by simp [Builtin.lenOf], fun k => ?_, hl, hsC_one _⟩
  by_cases h : i < ys.length
  · have e : o = some ⟨b, i * 34, none⟩ := by rw [ho, cutA_at (o := i * 34) (by omega) (by omega)]
    subst e
    simp only [Builtin.firstCells]
    refine run_loadRow (w := { w with drawn := k }) hb ?_ hl
    rw [hs_part ys sp i, List.drop_append, List.drop_of_length_le (by rw [hs_take_len hi]; omega), List.nil_append, hs_take_len hi, Nat.sub_self, List.drop_zero, List.take_append, List.take_of_length_le (by omega)]
    have : (ys.length - i) * 34 - (hsC (ys.drop i)).length = 0 := by omega
    rw [this]; simp
  · have e : ys.drop i = [] := List.drop_of_length_le (by omega)
    have e2 : ys.length - i = 0 := by omega
    rw [e, e2, ho]
    unfold cutA
    split
    · simp only [Builtin.firstCells]
      exact run_loadCells_list (P := P) { w with drawn := k } _ [] fun j v hj => by simp at hj
    · simp only [Option.map_some, Builtin.firstCells]
      exact run_loadCells_list (P := P) { w with drawn := k } _ [] fun j v hj => by simp at hj
def delSp (ys : List Held) (sp : List Value) (i : Nat) : List Value := (hsC (ys.drop i) ++ sp).drop ((ys.length - (i + 1)) * 34)
theorem del_cells (ys : List Held) (sp : List Value) (i : Nat) (hi : i < ys.length) : splice (hsC ys ++ sp) (i * 34) (hsC (ys.drop (i + 1))) = hsC (ys.take i ++ ys.drop (i + 1)) ++ delSp ys sp i := by
  have hl : (hsC (ys.drop (i + 1))).length = (ys.length - (i + 1)) * 34 := by rw [hsC_length, List.length_drop]; omega
  rw [hs_part ys sp i, splice_at (hs_take_len (by omega)), hl, hsC_append, List.append_assoc]
  rfl
theorem delSp_length (ys : List Held) (sp : List Value) (i : Nat) (hi : i < ys.length) : (delSp ys sp i).length = 34 + sp.length := by
  unfold delSp
  rw [List.length_drop, List.length_append, hsC_length, List.length_drop]; omega
theorem hs_end (zs : List Held) (sp vs : List Value) {off : Nat} (h : zs.length * 34 = off) : splice (hsC zs ++ sp) off vs = hsC zs ++ (vs ++ sp.drop vs.length) := splice_at (by rw [hsC_length]; omega)
theorem hs_ins (a : List Held) (x : List Value) (vs : List Held) {off : Nat} (h : a.length * 34 = off) : splice (hsC a ++ x) off (hsC vs) = hsC (a ++ vs) ++ x.drop (34 * vs.length) := by
  rw [hs_end a x _ h, hsC_append, hsC_length, List.append_assoc]
theorem zeros_one (z : Array Value) : (Builtin.zeroCells z 1).toList = z.toList := by
  apply List.ext_getElem
  · simp [Builtin.zeroCells]
  · intro i h1 h2
    have h : i < z.size := by simpa using h2
    simp [Builtin.zeroCells, Nat.mod_eq_of_lt h, h]
theorem splice_right {A R D : List Value} {off k : Nat} (h : off = A.length + k) (_hk : k + D.length ≤ R.length) : splice (A ++ R) off D = A ++ splice R k D := by
  subst h
  unfold splice
  rw [List.take_append, List.take_of_length_le (by omega), Nat.add_sub_cancel_left, List.drop_append, List.drop_of_length_le (by omega), List.nil_append]
  have : A.length + k + D.length - A.length = k + D.length := by omega
  rw [this]; simp
theorem ins_cells (A V D R : List Held) (sp : List Value) (h : 34 * V.length + 34 * D.length ≤ (hsC R ++ sp).length) {off : Nat} (ho : off = A.length * 34) :
    splice (hsC A ++ splice (hsC R ++ sp) (34 * V.length) (hsC D)) off (hsC V) = hsC (A ++ V ++ D) ++ (hsC R ++ sp).drop (34 * V.length + 34 * D.length) := by
  rw [splice_at (by rw [hsC_length]; omega), hsC_append, hsC_append, hsC_length]
  have e : (splice (hsC R ++ sp) (34 * V.length) (hsC D)).drop (34 * V.length) = hsC D ++ (hsC R ++ sp).drop (34 * V.length + 34 * D.length) := by
    unfold splice
    rw [List.append_assoc, List.drop_append, List.drop_of_length_le (by rw [List.length_take]; omega), List.nil_append, hsC_length, List.length_take]
    have : 34 * V.length - min (34 * V.length) (hsC R ++ sp).length = 0 := by omega
    rw [this]; simp
  rw [e]; simp
theorem first_at {P : Program} {w : World} {b off n c m : Nat} {A : List Value} {D : List Held} {S : List Value} {E : TypeId} (hb : w.heap[b]? = some (.cells (A ++ (hsC D ++ S)).toArray E (0, 0))) (ho : A.length = off) (hn : n = D.length) : (Builtin.firstCells 34 n (.slice (some ⟨b, off, none⟩) m c)).run P w = .ok (hsC D).toArray w := by
  subst ho hn
  simp only [Builtin.firstCells]
  refine run_loadRow hb ?_ (by rw [hsC_length]; omega)
  rw [List.drop_append, List.drop_of_length_le (Nat.le_refl _), List.nil_append, Nat.sub_self, List.drop_zero, List.take_append, List.take_of_length_le (by rw [hsC_length]; omega)]
  have : D.length * 34 - (hsC D).length = 0 := by rw [hsC_length]; omega
  rw [this]; simp
theorem src_all {P : Program} {w : World} {b n : Nat} {ys : List Held} {sp : List Value} {E : TypeId} (hb : w.heap[b]? = some (.cells (hsC ys ++ sp).toArray E (0, 0))) (hn : n = ys.length) (c : Nat) : Src P w 34 (.slice (some ⟨b, 0, none⟩) n c) n (hsC ys) := by
  subst hn
  have hl : (hsC ys).length = ys.length * 34 := by rw [hsC_length]; omega
  refine Src.slice hb ?_ hl (hsC_one _)
  rw [List.drop_zero, List.take_append, List.take_of_length_le (by omega)]
  have : ys.length * 34 - (hsC ys).length = 0 := by omega
  rw [this]; simp
end Go.Er
