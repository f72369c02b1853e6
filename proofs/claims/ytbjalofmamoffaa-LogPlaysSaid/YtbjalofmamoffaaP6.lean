/-
  The plain law of layer 6: nodes that may be held, which one has a leaf.
-/
import Derived.Test.YtbjalofmamoffaaD6
import Derived.Test.YtbjalofmamoffaaK4
namespace Go.Er
open Go

theorem pow_le17 (k : Nat) (h : k ≤ 17) : (2:Int) ^ k ≤ 131072 := by
  have h1 : (2:Nat) ^ k ≤ 2 ^ 17 := Nat.pow_le_pow_right (by omega) h
  have h2 : (((2:Nat) ^ k : Nat) : Int) ≤ ((2 ^ 17 : Nat) : Int) := Int.ofNat_le.2 h1
  simpa using h2
theorem pow_step (k : Nat) : (2:Int) * 2 ^ k = 2 ^ (k + 1) := by rw [Int.pow_succ, Int.mul_comm]
/-- how many leaves a node of a depth has -/
def many (d : Int) : Int := 2 ^ (17 - d).toNat
theorem many_of {n : Int} {k : Nat} (hk : (17 - n) = k) : (2:Int) ^ k = many n := by unfold many; rw [hk]; rfl
theorem many_pos (n : Int) : 0 < many n := Int.pow_pos (by omega)
theorem many_le {n : Int} (h0 : 0 ≤ n) : many n ≤ 131072 := by
  have := pow_le17 (17 - n).toNat (by omega)
  exact this
theorem many_eq {n : Int} (h0 : 0 ≤ n) : IntKind.u64.wrap (1 * 2 ^ min (17 - n).toNat IntKind.u64.bits) = many n := by
  have hm : min (17 - n).toNat IntKind.u64.bits = (17 - n).toNat := Nat.min_eq_left (by show (17 - n).toNat ≤ 64; omega)
  rw [hm, Int.one_mul]
  have := many_le h0
  have := many_pos n
  exact w_u64 (n := many n) (by omega) (by omega)
theorem many_zero : many 0 = 131072 := by decide
theorem many_succ {n : Int} (h1 : n < 17) : many n = 2 * many (n + 1) := by
  unfold many
  rw [pow_step]
  congr 1
  omega
theorem many_17 : many 17 = 1 := by decide
/-- how two numbers compare -/
def cmpI (m n : Int) : Int := if m < n then -1 else if n < m then 1 else 0

theorem cmpI_neg {m n : Int} : cmpI m n < 0 ↔ m < n := by unfold cmpI; split <;> (try split) <;> omega
theorem cmpI_nneg {m n : Int} : ¬ cmpI m n < 0 ↔ n ≤ m := by rw [cmpI_neg]; omega
theorem cmpI_zero {m n : Int} : cmpI m n = 0 ↔ m = n := by unfold cmpI; split <;> (try split) <;> omega
theorem tup_dec {x : Value} {p q : Prop} [Decidable p] [Decidable q] (h : p ↔ q) : Value.tuple #[x, .bool (decide p)] = .tuple #[x, .bool (decide q)] := by rw [decide_eq_decide.2 h]
theorem tup_false {x : Value} {q : Prop} [Decidable q] (h : ¬ q) : Value.tuple #[x, .bool false] = .tuple #[x, .bool (decide q)] := by rw [decide_eq_false h]
theorem tup_true {x : Value} {q : Prop} [Decidable q] (h : q) : Value.tuple #[x, .bool true] = .tuple #[x, .bool (decide q)] := by rw [decide_eq_true h]

theorem w_i64e {n r : Int} (h : n = r) (h0 : -9223372036854775808 ≤ n) (h1 : n ≤ 9223372036854775807) : IntKind.i64.wrap n = r := by rw [w_i64 h0 h1, h]
theorem w_u64e {n r : Int} (h : n = r) (h0 : 0 ≤ n) (h1 : n < 18446744073709551616) : IntKind.u64.wrap n = r := by rw [w_u64 h0 h1, h]
theorem shr1 (m : Int) (k : IntKind) : m.fdiv (2 ^ (min (1 : Int).toNat k.bits)) = m / 2 := by
  cases k <;> exact Int.fdiv_eq_ediv_of_nonneg _ (by decide)

/-! ### Nodes that may be held -/
abbrev nd (xs : List Held) (i : Nat) : Held := xs.getD i Held.zero
theorem nd_eq {xs : List Held} {i : Nat} (h : i < xs.length) : xs[i] = nd xs i := by simp [nd, List.getD_eq_getElem?_getD, h]

theorem hs_tdn (pre : List Value) (xs : List Held) (post : List Value) (off i : Nat) (ho : pre.length = off) (hi : i < xs.length) : ((pre ++ hsC xs ++ post).drop (off + i * 34)).take 34 = hC (nd xs i) := by
  rw [hs_td pre xs post off i ho hi, nd_eq hi]
theorem hs_at (pre : List Value) (xs : List Held) (post : List Value) (off i : Nat) (ho : pre.length = off) (hi : i < xs.length) : (pre ++ hsC xs ++ post)[off + i * 34 + 1]? = some (.int .u64 (nd xs i).at_) := by
  rw [hs_get pre xs post off i 1 ho hi (by omega), nd_eq hi]; rfl
theorem hs_depth (pre : List Value) (xs : List Held) (post : List Value) (off i : Nat) (ho : pre.length = off) (hi : i < xs.length) : (pre ++ hsC xs ++ post)[off + i * 34 + 0]? = some (.int .i64 (nd xs i).depth) := by
  rw [hs_get pre xs post off i 0 ho hi (by omega), nd_eq hi]; rfl

/-- a row of nodes that a slice shows -/
def HRow (w : World) (a : Option Addr) (xs : List Held) : Prop :=
  0 < xs.length → ∃ b off pre post T fz, a = some ⟨b, off, none⟩ ∧ w.heap[b]? = some (.cells (pre ++ hsC xs ++ post).toArray T fz) ∧ pre.length = off

theorem HRow.st {w0 w : World} {L : List (Nat × Obj)} {a : Option Addr} {xs : List Held} (h : HRow w0 a xs) (H : St w0 [] w L) : HRow w a xs := by
  intro hx
  obtain ⟨b, off, pre, post, T, fz, e, hb, hp⟩ := h hx
  exact ⟨b, off, pre, post, T, fz, e, H.rd0 hb, hp⟩

def okN (h : Held) : Prop := 0 ≤ h.depth ∧ h.depth ≤ 17 ∧ 0 ≤ h.at_ ∧ h.at_ % many h.depth = 0 ∧ h.at_ < 131072
def okFrom : Int → List Held → Prop
  | _, [] => True
  | e, h :: t => okN h ∧ e ≤ h.at_ ∧ okFrom (h.at_ + many h.depth) t
def Valid (xs : List Held) : Prop := okFrom 0 xs

theorem okFrom.get {xs : List Held} : ∀ {e : Int}, okFrom e xs → ∀ i, i < xs.length → okN (nd xs i) ∧ e ≤ (nd xs i).at_ := by
  induction xs with
  | nil => intro e _ i hi; simp at hi
  | cons x xs ih =>
    intro e h i hi
    obtain ⟨h1, h2, h3⟩ := h
    cases i with
    | zero => exact ⟨h1, h2⟩
    | succ i =>
      have := ih h3 i (by simpa using hi)
      have hp := many_pos x.depth
      exact ⟨this.1, by have h4 := this.2; show e ≤ (nd xs i).at_; omega⟩
theorem Valid.get {xs : List Held} (h : Valid xs) {i : Nat} (hi : i < xs.length) : okN (nd xs i) := (okFrom.get h i hi).1

theorem okFrom.lt {xs : List Held} : ∀ {e : Int}, okFrom e xs → ∀ i j, i < j → j < xs.length → (nd xs i).at_ + many (nd xs i).depth ≤ (nd xs j).at_ := by
  induction xs with
  | nil => intro e _ i j _ hj; simp at hj
  | cons x xs ih =>
    intro e h i j hij hj
    obtain ⟨_, _, h3⟩ := h
    cases j with
    | zero => omega
    | succ j =>
      cases i with
      | zero => exact (okFrom.get h3 j (by simpa using hj)).2
      | succ i => exact ih h3 i j (by omega) (by simpa using hj)
theorem Valid.lt {xs : List Held} (h : Valid xs) {i j : Nat} (hij : i < j) (hj : j < xs.length) : (nd xs i).at_ + many (nd xs i).depth ≤ (nd xs j).at_ := okFrom.lt h i j hij hj

/-- has a node a leaf? -/
def InN (h : Held) (n : Int) : Prop := h.at_ ≤ n ∧ n < h.at_ + many h.depth

/-- what find tells -/
def FindR (xs : List Held) (n : Int) (i : Nat) (ok : Bool) : Prop :=
  (ok = true ∧ i < xs.length ∧ InN (nd xs i) n) ∨ (ok = false ∧ i = 0 ∧ ∀ j, j < xs.length → ¬ InN (nd xs j) n)

/-- what a binary search tells -/
def Bs (xs : List Held) (n : Int) (i : Nat) : Prop := i ≤ xs.length ∧ (0 < i → (nd xs (i - 1)).at_ < n) ∧ (i < xs.length → n ≤ (nd xs i).at_)

theorem okN.end_le {h : Held} (hh : okN h) : h.at_ + many h.depth ≤ 131072 := by
  obtain ⟨h0, h1, h2, h3, h4⟩ := hh
  have hp := many_pos h.depth
  -- both are multiples of many h.depth
  have e : (131072 : Int) = many h.depth * 2 ^ h.depth.toNat := by
    unfold many
    rw [← Int.pow_add]
    have : (17 - h.depth).toNat + h.depth.toNat = 17 := by omega
    rw [this]; rfl
  have hd : many h.depth * (h.at_ / many h.depth) = h.at_ := by rw [Int.mul_comm]; exact Int.ediv_mul_cancel (Int.dvd_of_emod_eq_zero h3)
  rw [e] at h4 ⊢
  rw [← hd] at h4 ⊢
  have : h.at_ / many h.depth < 2 ^ h.depth.toNat := Int.lt_of_mul_lt_mul_left h4 (by omega)
  have h5 : many h.depth * (h.at_ / many h.depth + 1) ≤ many h.depth * 2 ^ h.depth.toNat := Int.mul_le_mul_of_nonneg_left (by omega) (by omega)
  rw [Int.mul_add, Int.mul_one] at h5
  exact h5

theorem find_none_big {xs : List Held} {n : Int} (hv : Valid xs) (hn : 131072 ≤ n) : FindR xs n 0 false := by
  refine .inr ⟨rfl, rfl, fun j hj hin => ?_⟩
  have := (hv.get hj).end_le
  have := hin.2
  omega
theorem find_hit {xs : List Held} {n : Int} {i : Nat} (hi : i < xs.length) (he : (nd xs i).at_ = n) : FindR xs n i true :=
  .inl ⟨rfl, hi, by unfold InN; have := many_pos (nd xs i).depth; omega⟩
theorem find_none_first {xs : List Held} {n : Int} (hv : Valid xs) (hb : Bs xs n 0) (hne : 0 < xs.length → (nd xs 0).at_ ≠ n) : FindR xs n 0 false := by
  refine .inr ⟨rfl, rfl, fun j hj hin => ?_⟩
  have h1 := hb.2.2 (by omega)
  have h2 := hne (by omega)
  obtain ⟨h3, _⟩ := hin
  by_cases hj0 : j = 0
  · subst hj0; omega
  · have h4 := hv.lt (i := 0) (j := j) (by omega) hj
    have := many_pos (nd xs 0).depth
    omega
theorem find_none_gap {xs : List Held} {n : Int} {m : Nat} (hv : Valid xs) (hb : Bs xs n (m + 1)) (hne : m + 1 < xs.length → (nd xs (m + 1)).at_ ≠ n) (hg : many (nd xs m).depth ≤ n - (nd xs m).at_) : FindR xs n 0 false := by
  refine .inr ⟨rfl, rfl, fun j hj hin => ?_⟩
  obtain ⟨h3, h4⟩ := hin
  obtain ⟨h0, _, h6⟩ := hb
  rcases Nat.lt_trichotomy j m with h | h | h
  · have h7 := hv.lt h (by omega)
    have h8 := many_pos (nd xs m).depth
    omega
  · subst h; omega
  · have h7 := h6 (by omega)
    have h8 := hne (by omega)
    by_cases hj1 : j = m + 1
    · subst hj1; omega
    · have h9 := hv.lt (i := m + 1) (j := j) (by omega) hj
      have := many_pos (nd xs (m + 1)).depth
      omega
theorem find_in {xs : List Held} {n : Int} {m : Nat} (hb : Bs xs n (m + 1)) (hg : ¬ many (nd xs m).depth ≤ n - (nd xs m).at_) : FindR xs n m true := by
  obtain ⟨h0, h1, _⟩ := hb
  have := h1 (by omega)
  simp only [Nat.add_sub_cancel] at this
  exact .inl ⟨rfl, by omega, by unfold InN; omega⟩

/-! ### The way down -/
section
variable (sl sr : Key → Key)
def kidL (h : Held) : Held := ⟨h.depth + 1, h.at_, sl h.seed⟩
def kidR (h : Held) : Held := ⟨h.depth + 1, h.at_ + many (h.depth + 1), sr h.seed⟩
/-- k steps down: the nodes beside the way, and where it ends -/
def path : Nat → Held → Int → List Held × Held
  | 0, h, _ => ([], h)
  | k + 1, h, n =>
    if (kidR sr h).at_ ≤ n then let p := path k (kidR sr h) n; (kidL sl h :: p.1, p.2)
    else let p := path k (kidL sl h) n; (kidR sr h :: p.1, p.2)
end
section
variable (sl sr : Key → Key)
theorem path_R {k : Nat} {h : Held} {n : Int} (hc : (kidR sr h).at_ ≤ n) : path sl sr (k + 1) h n = (kidL sl h :: (path sl sr k (kidR sr h) n).1, (path sl sr k (kidR sr h) n).2) := by
  rw [path, if_pos hc]
theorem path_L {k : Nat} {h : Held} {n : Int} (hc : ¬ (kidR sr h).at_ ≤ n) : path sl sr (k + 1) h n = (kidR sr h :: (path sl sr k (kidL sl h) n).1, (path sl sr k (kidL sl h) n).2) := by
  rw [path, if_neg hc]
/-- the way so far -/
structure WayD (h : Held) (n : Int) (k : Nat) (hc : Held) (acc : List Held) : Prop where
  way : path sl sr (17 - h.depth).toNat h n = (acc ++ (path sl sr k hc n).1, (path sl sr k hc n).2)
  depth : hc.depth = 17 - k
  le : k ≤ 17
  at0 : 0 ≤ hc.at_
  at1 : hc.at_ + many hc.depth ≤ 131072
  len : acc.length + k = (17 - h.depth).toNat
variable {sl sr}
theorem WayD.start {h : Held} {n : Int} (h0 : 0 ≤ h.depth) (h1 : h.depth ≤ 17) (a0 : 0 ≤ h.at_) (a1 : h.at_ + many h.depth ≤ 131072) : WayD sl sr h n (17 - h.depth).toNat h [] :=
  ⟨by simp, by omega, by omega, a0, a1, by simp⟩
theorem WayD.right {h hc : Held} {n : Int} {k : Nat} {acc : List Held} (w : WayD sl sr h n (k + 1) hc acc) (hn : (kidR sr hc).at_ ≤ n) : WayD sl sr h n k (kidR sr hc) (acc ++ [kidL sl hc]) := by
  obtain ⟨w1, w2, w3, w4, w5, w6⟩ := w
  have hm := many_pos (hc.depth + 1)
  have h2 := many_succ (n := hc.depth) (by omega)
  refine ⟨by rw [w1, path_R sl sr hn]; simp, ?_, by omega, ?_, ?_, by simp; omega⟩
  · show hc.depth + 1 = _; omega
  · show 0 ≤ hc.at_ + many (hc.depth + 1); omega
  · show hc.at_ + many (hc.depth + 1) + many (hc.depth + 1) ≤ _; omega
theorem WayD.left {h hc : Held} {n : Int} {k : Nat} {acc : List Held} (w : WayD sl sr h n (k + 1) hc acc) (hn : ¬ (kidR sr hc).at_ ≤ n) : WayD sl sr h n k (kidL sl hc) (acc ++ [kidR sr hc]) := by
  obtain ⟨w1, w2, w3, w4, w5, w6⟩ := w
  have hm := many_pos (hc.depth + 1)
  have h2 := many_succ (n := hc.depth) (by omega)
  refine ⟨by rw [w1, path_L sl sr hn]; simp, ?_, by omega, w4, ?_, by simp; omega⟩
  · show hc.depth + 1 = _; omega
  · show hc.at_ + many (hc.depth + 1) ≤ _; omega
theorem WayD.fin {h hc : Held} {n : Int} {acc : List Held} (w : WayD sl sr h n 0 hc acc) : path sl sr (17 - h.depth).toNat h n = (acc, hc) := by
  rw [w.way]; simp [path]
end
/-- what a cipher on an interface value splits a key to -/
def SplitsBy (P : Program) (ci : Value) (sl sr : Key → Key) : Prop :=
  ∃ T v f rv, ci = .iface T v ∧ Ent P f ∧ Meth P T v "Split" f rv ∧
    ∀ k w0, Calls P f #[rv, .agg (kC k).toArray] w0 fun e w => ∃ v, e = .returned v ∧ v = .tuple #[.agg (kC (sl k)).toArray, .agg (kC (sr k)).toArray] ∧ St w0 [] w []
/-- what is called with each node beside the way: what it keeps for itself, when it has been called with some -/
def Takes (P : Program) (f : FuncId) (cs : List Value) (Foot : List Held → List (Nat × Obj) → Prop) : Prop :=
  Ent P f ∧ ∀ acc x N w0, Foot acc N → Own w0 N → acc.length ≤ 17 → Calls P f (.agg (hC x).toArray :: cs).toArray w0 fun e w => ∃ v, e = .returned v ∧ ∃ N', Foot (acc ++ [x]) N' ∧ St w0 (N.map (·.1)) w N'

/-- what Puncture's closure keeps: the variable that it captured, and the row that it holds -/
def RestF (b : Nat) (TS TE : TypeId) (acc : List Held) (N : List (Nat × Obj)) : Prop :=
  (acc = [] ∧ N = [(b, .cells [.slice none 0 0].toArray TS (0, 0))]) ∨
  (acc ≠ [] ∧ ∃ bs cap sp, N = [(bs, .cells (hsC acc ++ sp).toArray TE (0, 0)), (b, .cells [.slice (some ⟨bs, 0, none⟩) acc.length cap].toArray TS (0, 0))] ∧ cap * 34 ≤ (hsC acc ++ sp).length)
theorem hsC_one1 (x : Held) : hsC [x] = hC x := by simp [hsC]
end Go.Er
