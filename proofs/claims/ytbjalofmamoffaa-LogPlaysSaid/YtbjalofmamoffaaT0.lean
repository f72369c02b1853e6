/-
  A tree, as the blocks that it stands in; rows of whole numbers; what Key tells.
-/
import Derived.Test.YtbjalofmamoffaaP9
import Derived.Test.YtbjalofmamoffaaD9
import Derived.Test.YtbjalofmamoffaaK8
namespace Go.Er
open Go
/-- a tree of a cipher that holds some nodes -/
def TreeN (TT TE : TypeId) (bt : Nat) (ci : Value) (xs : List Held) (N : List (Nat × Obj)) : Prop :=
  ∃ a cap N', N = (bt, .cells [ci, .slice a xs.length cap].toArray TT (0, 0)) :: N' ∧ RowN 34 TE (hsC xs) xs.length a cap N'
theorem St.ownsM {w0 w : World} {X : List Nat} {L N : List (Nat × Obj)} (h : St w0 X w L) (hs : N.Sublist L) : Go.Er.Own w N :=
  ⟨fun p hp => h.own p (hs.subset hp), (hs.map _).nodup h.nodup⟩
theorem TreeN.rd {TT TE : TypeId} {bt : Nat} {ci : Value} {xs : List Held} {N : List (Nat × Obj)} {w : World} (h : TreeN TT TE bt ci xs N) (ho : Go.Er.Own w N) : ∃ a cap, w.heap[bt]? = some (.cells [ci, .slice a xs.length cap].toArray TT (0, 0)) ∧ HRow w a xs := by
  obtain ⟨a, cap, N', rfl, hN⟩ := h
  exact ⟨a, cap, ho.own _ List.mem_cons_self, hN.hrowM ho.st (fun p hp => List.mem_cons_of_mem _ hp)⟩
/-- what Key tells -/
def KeyR (sl sr : Key → Key) (xs : List Held) (n : Int) (k : Key) (ok : Bool) : Prop :=
  (ok = true ∧ ∃ x ∈ xs, InN x n ∧ k = leafK sl sr x n) ∨ (ok = false ∧ k = By.zero 32 ∧ ¬ ∃ x ∈ xs, InN x n)
theorem cnt_take {xs : List Held} {i : Nat} (hi : i < xs.length) : cnt (xs.take (i + 1)) = cnt (xs.take i) + many (nd xs i).depth := by
  rw [List.take_succ_eq_append_getElem hi, cnt_append, nd_eq hi]
  simp [cnt]
theorem cnt_bound : ∀ (xs : List Held), (∀ x ∈ xs, 0 ≤ x.depth) → 0 ≤ cnt xs ∧ cnt xs ≤ 131072 * xs.length
  | [], _ => by simp [cnt]
  | x :: xs, h => by
    have h1 := many_le (h x List.mem_cons_self)
    have h2 := many_pos x.depth
    have h3 := cnt_bound xs fun y hy => h y (List.mem_cons_of_mem _ hy)
    rw [cnt_cons]
    simp only [List.length_cons]
    omega
theorem Valid.mem {xs : List Held} (h : Valid xs) {x : Held} (hx : x ∈ xs) : okN x := by
  obtain ⟨i, hi, rfl⟩ := nd_mem hx
  exact h.get hi
theorem cnt_takeb {xs : List Held} (h : Valid xs) (i : Nat) : 0 ≤ cnt (xs.take i) ∧ cnt (xs.take i) ≤ 131072 * xs.length := by
  have h1 := cnt_bound (xs.take i) fun x hx => (h.mem (List.mem_of_mem_take hx)).1
  have h2 : (xs.take i).length ≤ xs.length := by rw [List.length_take]; omega
  omega

/-! ### Rows of whole numbers of 64 bits -/
def uC (ns : List Int) : List Value := ns.map fun n => .int .u64 n
theorem uC_length (ns : List Int) : (uC ns).length = ns.length := by simp [uC]
def U64 (ns : List Int) : Prop := ∀ n ∈ ns, 0 ≤ n ∧ n < 18446744073709551616
def URow (w : World) (a : Option Addr) (ns : List Int) : Prop :=
  0 < ns.length → ∃ b off pre post T fz, a = some ⟨b, off, none⟩ ∧ w.heap[b]? = some (.cells (pre ++ uC ns ++ post).toArray T fz) ∧ pre.length = off
theorem u_get (pre : List Value) (ns : List Int) (post : List Value) {off o : Nat} (i : Nat) (ho : pre.length = off) (hi : i < ns.length) (he : o = off + i) : (pre ++ uC ns ++ post)[o]? = some (.int .u64 (ns.getD i 0)) := by
  subst he ho
  rw [List.append_assoc, List.getElem?_append_right (by omega)]
  have h1 : pre.length + i - pre.length = i := by omega
  rw [h1, List.getElem?_append_left (by rw [uC_length]; exact hi)]
  simp [uC, List.getD_eq_getElem?_getD, hi]
theorem U64.get {ns : List Int} (h : U64 ns) {i : Nat} (hi : i < ns.length) : 0 ≤ ns.getD i 0 ∧ ns.getD i 0 < 18446744073709551616 := by
  rw [List.getD_eq_getElem?_getD, List.getElem?_eq_getElem hi]
  exact h _ (List.getElem_mem hi)
theorem getD_mem {ns : List Int} {i : Nat} (hi : i < ns.length) : ns.getD i 0 ∈ ns := by
  rw [List.getD_eq_getElem?_getD, List.getElem?_eq_getElem hi]; exact List.getElem_mem hi

/-! ### The document's example -/
def key1 : Key := ⟨1 :: List.replicate 31 0, rfl⟩
section
variable {sl sr : Key → Key} {r : Held} (hd : r.depth = 0) (ha : r.at_ = 0)
include hd ha
theorem ex_in : InN r 0 ∧ InN r 1 := by
  have hm : many r.depth = 131072 := by rw [hd]; exact many_zero
  unfold InN; omega
theorem ex_val : Valid [r] := by
  have hm : many r.depth = 131072 := by rw [hd]; exact many_zero
  exact ⟨⟨by omega, by omega, by omega, by rw [ha]; exact Int.zero_emod _, by omega⟩, by omega, trivial⟩
omit ha in
theorem ex_canon : punc sl sr [r] 0 = canon sl sr [0] 17 r := by
  have h := punc_canon (sl := sl) (sr := sr) (l := []) (n := 0) 17 r (by omega)
  rw [canon_miss (fun ⟨_, h1, _⟩ => nomatch h1)] at h
  exact h
theorem ex_pv : Valid (punc sl sr [r] 0) := punc_valid (ex_val hd ha)
theorem ex_len : (punc sl sr [r] 0).length = 17 := by
  have e : punc sl sr [r] 0 = wo sl sr r 0 := by simp [punc]
  have e2 : (17 - r.depth).toNat = 17 := by rw [hd]; rfl
  have h := woF_perm (sl := sl) (sr := sr) 17 r 0 (by omega) (ex_in hd ha).1
  rw [e]
  unfold wo
  rw [e2]
  exact h.length_eq.trans (path_len 17 _ _)
theorem ex_cnt : cnt (punc sl sr [r] 0) = 131071 := by
  have hm : many r.depth = 131072 := by rw [hd]; exact many_zero
  have h := cnt_punc (sl := sl) (sr := sr) (ex_val hd ha) (i := 0) Nat.zero_lt_one (ex_in hd ha).1
  rw [h, cnt_cons, hm]; rfl
theorem ex_first : (nd (punc sl sr [r] 0) 0).at_ = 1 ∧ (nd (punc sl sr [r] 0) 0).depth = 17 := by
  have key : ∀ (k : Nat) (h : Held), h.depth = 17 - (k + 1 : Nat) → h.at_ = 0 → ∃ x l, woF sl sr (k + 1) h 0 = x :: l ∧ x.at_ = 1 ∧ x.depth = 17 := by
    intro k
    induction k with
    | zero =>
      intro h hd ha
      have hm : many (h.depth + 1) = 1 := by rw [hd]; decide
      have hm2 : many h.depth = 2 := by rw [hd]; decide
      have i0 : InN h 0 := by unfold InN; omega
      have i1 : InN (kidL sl h) 0 := by unfold InN kidL; dsimp only; omega
      have i2 : ¬ InN (kidR sr h) 0 := by unfold InN kidR; dsimp only; omega
      refine ⟨kidR sr h, [], by simp [woF, i0, i1, i2], ?_, ?_⟩
      · show h.at_ + many (h.depth + 1) = 1; omega
      · show h.depth + 1 = 17; omega
    | succ k ih =>
      intro h hd ha
      have hp := many_pos (h.depth + 1)
      have hp2 := many_pos h.depth
      have i0 : InN h 0 := by unfold InN; omega
      obtain ⟨x, l, hx, h1, h2⟩ := ih (kidL sl h) (by show h.depth + 1 = _; omega) ha
      exact ⟨x, l ++ woF sl sr (k + 1) (kidR sr h) 0, by rw [woF, if_pos i0, hx]; rfl, h1, h2⟩
  obtain ⟨x, l, hx, h1, h2⟩ := key 16 r (by omega) ha
  have e : punc sl sr [r] 0 = wo sl sr r 0 := by simp [punc]
  have e2 : (17 - r.depth).toNat = 17 := by rw [hd]; rfl
  have e3 : punc sl sr [r] 0 = x :: l := by rw [e]; unfold wo; rw [e2]; exact hx
  rw [e3]; exact ⟨h1, h2⟩
theorem ex_none : ¬ ∃ x ∈ punc sl sr [r] 0, InN x 0 := by
  have h := canon_has (sl := sl) (sr := sr) (l := [0]) 17 r (by omega) 0 (ex_in hd ha).1
  rw [ex_canon hd]
  exact fun hx => absurd (h.1 hx) (by simp)
theorem ex_some : ∃ x ∈ punc sl sr [r] 0, InN x 1 := by
  have h := canon_has (sl := sl) (sr := sr) (l := [0]) 17 r (by omega) 1 (ex_in hd ha).2
  rw [ex_canon hd]
  exact h.2 (by simp)
end
theorem punc_off {sl sr : Key → Key} {xs : List Held} {n : Int} (h : ¬ ∃ x ∈ xs, InN x n) : punc sl sr xs n = xs := punc_none fun x hx hi => h ⟨x, hx, hi⟩
theorem len_tree {sl sr : Key → Key} {xs : List Held} {n : Int} (hv : Valid xs) : (punc sl sr xs n).length ≤ xs.length + 17 := by
  by_cases h : ∃ x ∈ xs, InN x n
  · obtain ⟨x, hx, hi⟩ := h
    obtain ⟨i, hl, rfl⟩ := nd_mem hx
    exact punc_len hv hl hi
  · rw [punc_off h]; omega
end Go.Er
