/-
  The plain law of sorting by swaps: what a row is turned into inside a part of it, and when that part is in order.
-/
import Derived.Test.YtbjalofmamoffaaK0
namespace Go.Er
open Go

section
variable {α : Type} (d : α)

def swp2 (ys : List α) (i j : Nat) : List α := (ys.set i (ys.getD j d)).set j (ys.getD i d)
theorem swp2_length (ys : List α) (i j : Nat) : (swp2 d ys i j).length = ys.length := by simp [swp2]
theorem swp2_get (ys : List α) {i j : Nat} (hi : i < ys.length) (hj : j < ys.length) (p : Nat) :
    (swp2 d ys i j).getD p d = if p = j then ys.getD i d else if p = i then ys.getD j d else ys.getD p d := by
  simp only [swp2, List.getD_eq_getElem?_getD, List.getElem?_set, List.length_set]
  by_cases h1 : p = j
  · subst h1; simp [hj]
  · rw [if_neg (fun h => h1 h.symm), if_neg h1]
    by_cases h2 : p = i
    · subst h2; simp [hi]
    · rw [if_neg (fun h => h2 h.symm), if_neg h2]
theorem swp2_self (ys : List α) (i : Nat) : swp2 d ys i i = ys := by
  apply List.ext_getElem?
  intro p
  simp only [swp2, List.getElem?_set, List.length_set, List.getD_eq_getElem?_getD]
  by_cases h : i = p
  · subst h
    by_cases hi : i < ys.length
    · simp [hi]
    · simp [hi]
  · simp [h]
theorem perm_of_count [DecidableEq α] {xs ys : List α} (h : ∀ a, xs.count a = ys.count a) : xs.Perm ys := List.perm_iff_count.2 h
theorem set_perm (l : List α) (i : Nat) (a : α) (hi : i < l.length) : (l.getD i d :: l.set i a).Perm (a :: l) := by
  induction l generalizing i with
  | nil => simp at hi
  | cons x l ih =>
    cases i with
    | zero => simpa using List.Perm.swap a x l
    | succ i =>
      have h := ih i (by simpa using hi)
      simp only [List.getD_cons_succ, List.set_cons_succ]
      exact (List.Perm.swap x _ _).trans ((List.Perm.cons x h).trans (List.Perm.swap a x l))
theorem swp2_permOf (ys : List α) {i j : Nat} (hi : i < ys.length) (hj : j < ys.length) : (swp2 d ys i j).Perm ys := by
  by_cases e : i = j
  · subst e; rw [swp2_self]
  · have h1 := set_perm d ys i (ys.getD j d) hi
    have h2 := set_perm d (ys.set i (ys.getD j d)) j (ys.getD i d) (by simpa using hj)
    have e2 : (ys.set i (ys.getD j d)).getD j d = ys.getD j d := by
      simp [List.getD_eq_getElem?_getD, e]
    rw [e2] at h2
    have h3 : (ys.getD j d :: swp2 d ys i j).Perm (ys.getD j d :: ys) := h2.trans h1
    exact h3.cons_inv

/-- turned by swaps inside [a, b) -/
inductive Sw (a b : Nat) (ys : List α) : List α → Prop
  | refl : Sw a b ys ys
  | step {zs : List α} (i j : Nat) (h : Sw a b ys zs) (hi : a ≤ i ∧ i < b) (hj : a ≤ j ∧ j < b) (hb : b ≤ ys.length) : Sw a b ys (swp2 d zs i j)
variable {d}
theorem Sw.length {a b : Nat} {ys zs : List α} (h : Sw d a b ys zs) : zs.length = ys.length := by
  induction h with
  | refl => rfl
  | step i j h hi hj hb ih => rw [swp2_length, ih]
theorem Sw.trans {a b : Nat} {xs ys zs : List α} (h : Sw d a b xs ys) (k : Sw d a b ys zs) : Sw d a b xs zs := by
  induction k with
  | refl => exact h
  | step i j _ hi hj hb ih => exact .step i j ih hi hj (by rw [← h.length]; exact hb)
theorem Sw.mono {a b a' b' : Nat} {ys zs : List α} (h : Sw d a b ys zs) (ha : a' ≤ a) (hb : b ≤ b') (hl : b' ≤ ys.length) : Sw d a' b' ys zs := by
  induction h with
  | refl => exact .refl
  | step i j _ hi hj _ ih => exact .step i j ih ⟨by omega, by omega⟩ ⟨by omega, by omega⟩ hl
theorem Sw.perm {a b : Nat} {ys zs : List α} (h : Sw d a b ys zs) : zs.Perm ys := by
  induction h with
  | refl => exact .refl _
  | step i j h hi hj hb ih => exact (swp2_permOf d _ (by rw [h.length]; omega) (by rw [h.length]; omega)).trans ih
theorem Sw.out {a b : Nat} {ys zs : List α} (h : Sw d a b ys zs) {p : Nat} (hp : p < a ∨ b ≤ p) : zs.getD p d = ys.getD p d := by
  induction h with
  | refl => rfl
  | step i j h hi hj hb ih => rw [swp2_get d _ (by rw [h.length]; omega) (by rw [h.length]; omega), if_neg (by omega), if_neg (by omega), ih]
/-- what all of the part have, they have still -/
theorem Sw.all {a b : Nat} {ys zs : List α} (h : Sw d a b ys zs) {P : α → Prop} (hP : ∀ p, a ≤ p → p < b → P (ys.getD p d)) : ∀ p, a ≤ p → p < b → P (zs.getD p d) := by
  induction h with
  | refl => exact hP
  | step i j h hi hj hb ih =>
    intro p h1 h2
    rw [swp2_get d _ (by rw [h.length]; omega) (by rw [h.length]; omega)]
    split
    · exact ih _ hi.1 hi.2
    · split
      · exact ih _ hj.1 hj.2
      · exact ih _ h1 h2

variable (d) (key : α → Int)
abbrev kk (ys : List α) (p : Nat) : Int := key (ys.getD p d)
/-- in order on [a, b) -/
def Srt (a b : Nat) (ys : List α) : Prop := ∀ p q, a ≤ p → p < q → q < b → kk d key ys p ≤ kk d key ys q
/-- all in order but number j, which is on its way down -/
def Ins (a i j : Nat) (ys : List α) : Prop := ∀ p q, a ≤ p → p < q → q ≤ i → q ≠ j → kk d key ys p ≤ kk d key ys q
variable {d key}
theorem Ins.start {a i : Nat} {ys : List α} (h : Srt d key a i ys) : Ins d key a i i ys := fun p q h1 h2 h3 h4 => h p q h1 h2 (by omega)
theorem Ins.step {a i j : Nat} {ys : List α} (h : Ins d key a i j ys) (hj : a < j) (hi : j ≤ i) (hl : i < ys.length) (hlt : kk d key ys j < kk d key ys (j - 1)) : Ins d key a i (j - 1) (swp2 d ys j (j - 1)) := by
  intro p q h1 h2 h3 h4
  have hg := swp2_get d ys (i := j) (j := j - 1) (by omega) (by omega)
  show key _ ≤ key _
  rw [hg p, hg q]
  rw [if_neg h4]
  by_cases hq : q = j
  · subst hq
    rw [if_pos rfl]
    by_cases hp : p = q - 1
    · rw [if_pos hp]; exact Int.le_of_lt hlt
    · rw [if_neg hp, if_neg (by omega)]; exact h p (q - 1) h1 (by omega) (by omega) (by omega)
  · rw [if_neg hq]
    by_cases hp : p = j - 1
    · rw [if_pos hp]; exact h j q (by omega) (by omega) h3 hq
    · rw [if_neg hp]
      by_cases hp2 : p = j
      · rw [if_pos hp2]; exact h (j - 1) q (by omega) (by omega) h3 hq
      · rw [if_neg hp2]; exact h p q h1 h2 h3 hq
theorem Ins.fin {a i j : Nat} {ys : List α} (h : Ins d key a i j ys) (hi : j ≤ i) (hle : a < j → ¬ kk d key ys j < kk d key ys (j - 1)) : Srt d key a (i + 1) ys := by
  intro p q h1 h2 h3
  by_cases hq : q = j
  · subst hq
    have h4 := hle (by omega)
    by_cases hp : p = q - 1
    · subst hp; exact Int.not_lt.1 h4
    · have := h p (q - 1) h1 (by omega) (by omega) (by omega)
      omega
  · exact h p q h1 h2 (by omega) hq

/-! ### Parting -/
variable (d key) in
/-- while a part is parted: its first one is the pivot -/
structure Part (a b i j : Nat) (ys : List α) : Prop where
  lo : ∀ p, a < p → p < i → kk d key ys p < kk d key ys a
  hi : ∀ p, j < p → p < b → kk d key ys a ≤ kk d key ys p
  ai : a < i
  ij : i ≤ j + 1
  jb : j < b
theorem Part.start {a b : Nat} {ys : List α} (h : a + 1 ≤ b) : Part d key a b (a + 1) (b - 1) ys := ⟨fun p h1 h2 => by omega, fun p h1 h2 => by omega, by omega, by omega, by omega⟩
theorem Part.up {a b i j : Nat} {ys : List α} (h : Part d key a b i j ys) (hij : i ≤ j) (hlt : kk d key ys i < kk d key ys a) : Part d key a b (i + 1) j ys :=
  ⟨fun p h1 h2 => by
    by_cases hp : p = i
    · subst hp; exact hlt
    · exact h.lo p h1 (by omega), h.hi, by have := h.ai; omega, by omega, h.jb⟩
theorem Part.down {a b i j : Nat} {ys : List α} (h : Part d key a b i j ys) (hij : i ≤ j) (hle : ¬ kk d key ys j < kk d key ys a) : Part d key a b i (j - 1) ys :=
  ⟨h.lo, fun p h1 h2 => by
    by_cases hp : p = j
    · subst hp; exact Int.not_lt.1 hle
    · exact h.hi p (by omega) h2, h.ai, by omega, by have := h.jb; omega⟩
theorem Part.swap {a b i j : Nat} {ys : List α} (h : Part d key a b i j ys) (hij : i ≤ j) (hl : b ≤ ys.length) (hi : ¬ kk d key ys i < kk d key ys a) (hj : kk d key ys j < kk d key ys a) : Part d key a b (i + 1) (j - 1) (swp2 d ys i j) := by
  have hjb := h.jb
  have hai := h.ai
  have hne : i ≠ j := by rintro rfl; exact hi hj
  have hg := swp2_get d ys (i := i) (j := j) (by omega) (by omega)
  have ha : kk d key (swp2 d ys i j) a = kk d key ys a := by
    show key _ = key _
    rw [hg, if_neg (by omega), if_neg (by omega)]
  refine ⟨fun p h1 h2 => ?_, fun p h1 h2 => ?_, by omega, by omega, by omega⟩
  · rw [ha]
    show key _ < _
    rw [hg, if_neg (by omega)]
    by_cases hp : p = i
    · rw [if_pos hp]; exact hj
    · rw [if_neg hp]; exact h.lo p h1 (by omega)
  · rw [ha]
    show _ ≤ key _
    rw [hg]
    by_cases hp : p = j
    · rw [if_pos hp]; exact Int.not_lt.1 hi
    · rw [if_neg hp, if_neg (by omega)]; exact h.hi p (by omega) h2
variable (d key) in
/-- parted at m -/
def Parted (a b m : Nat) (ys : List α) : Prop := a ≤ m ∧ m < b ∧ (∀ p, a ≤ p → p < m → kk d key ys p < kk d key ys m) ∧ (∀ p, m < p → p < b → kk d key ys m ≤ kk d key ys p)
theorem Part.fin {a b i j : Nat} {ys : List α} (h : Part d key a b i j ys) (hij : j < i) (hl : b ≤ ys.length) : Parted d key a b j (swp2 d ys j a) := by
  have hjb := h.jb
  have hai := h.ai
  have hii := h.ij
  have e : i = j + 1 := by omega
  subst e
  have hg := swp2_get d ys (i := j) (j := a) (by omega) (by omega)
  have hm : kk d key (swp2 d ys j a) j = kk d key ys a := by
    show key _ = key _
    rw [hg]
    by_cases he : j = a
    · rw [if_pos he, he]
    · rw [if_neg he, if_pos rfl]
  refine ⟨by omega, by omega, fun p h1 h2 => ?_, fun p h1 h2 => ?_⟩
  · rw [hm]
    show key _ < _
    rw [hg]
    by_cases hp : p = a
    · rw [if_pos hp]; exact h.lo j (by omega) (by omega)
    · rw [if_neg hp, if_neg (by omega)]; exact h.lo p (by omega) (by omega)
  · rw [hm]
    show _ ≤ key _
    rw [hg, if_neg (by omega), if_neg (by omega)]
    exact h.hi p (by omega) h2

/-! ### The whole -/
variable (d key) in
/-- each pair is in order that doesn't lie in [a, b) whole -/
def Outer (a0 b0 a b : Nat) (ys : List α) : Prop := ∀ p q, a0 ≤ p → p < q → q < b0 → ¬ (a ≤ p ∧ q < b) → kk d key ys p ≤ kk d key ys q
theorem Outer.start {a0 b0 : Nat} {ys : List α} : Outer d key a0 b0 a0 b0 ys := fun _ _ h1 _ h3 h4 => absurd ⟨h1, h3⟩ h4
theorem Outer.sw {a0 b0 a b : Nat} {ys zs : List α} (h : Outer d key a0 b0 a b ys) (ha : a0 ≤ a) (hb : b ≤ b0) (k : Sw d a b ys zs) : Outer d key a0 b0 a b zs := by
  intro p q h1 h2 h3 h4
  by_cases hp : a ≤ p ∧ p < b
  · -- q is behind
    have hq : b ≤ q := by omega
    have e : kk d key zs q = kk d key ys q := by show key _ = key _; rw [k.out (.inr hq)]
    rw [e]
    exact k.all (P := fun x => key x ≤ kk d key ys q) (fun r r1 r2 => h r q (by omega) (by omega) h3 (by omega)) p hp.1 hp.2
  · have ep : kk d key zs p = kk d key ys p := by show key _ = key _; rw [k.out (by omega)]
    rw [ep]
    by_cases hq : a ≤ q ∧ q < b
    · exact k.all (P := fun x => kk d key ys p ≤ key x) (fun r r1 r2 => h p r h1 (by omega) (by omega) (by omega)) q hq.1 hq.2
    · have eq : kk d key zs q = kk d key ys q := by show key _ = key _; rw [k.out (by omega)]
      rw [eq]; exact h p q h1 h2 h3 h4
theorem Outer.fin {a0 b0 a b : Nat} {ys : List α} (h : Outer d key a0 b0 a b ys) (hs : Srt d key a b ys) : Srt d key a0 b0 ys := by
  intro p q h1 h2 h3
  by_cases hin : a ≤ p ∧ q < b
  · exact hs p q hin.1 h2 hin.2
  · exact h p q h1 h2 h3 hin
/-- the left part is in order: on with the right one -/
theorem Outer.right {a0 b0 a b m : Nat} {ys : List α} (h : Outer d key a0 b0 a b ys) (hp : Parted d key a b m ys) (hs : Srt d key a m ys) : Outer d key a0 b0 (m + 1) b ys := by
  obtain ⟨h1, h2, h3, h4⟩ := hp
  intro p q k1 k2 k3 k4
  by_cases hin : a ≤ p ∧ q < b
  · by_cases hq : q < m
    · exact hs p q hin.1 k2 hq
    · by_cases hq2 : q = m
      · subst hq2; exact Int.le_of_lt (h3 p hin.1 k2)
      · have hqm := h4 q (by omega) hin.2
        by_cases hpm : p < m
        · have := h3 p hin.1 hpm; omega
        · have : p = m := by omega
          subst this; exact hqm
  · exact h p q k1 k2 k3 hin
theorem Outer.left {a0 b0 a b m : Nat} {ys : List α} (h : Outer d key a0 b0 a b ys) (hp : Parted d key a b m ys) (hs : Srt d key (m + 1) b ys) : Outer d key a0 b0 a m ys := by
  obtain ⟨h1, h2, h3, h4⟩ := hp
  intro p q k1 k2 k3 k4
  by_cases hin : a ≤ p ∧ q < b
  · by_cases hpm : m < p
    · exact hs p q (by omega) k2 hin.2
    · by_cases hpm2 : p = m
      · subst hpm2; exact h4 q k2 hin.2
      · have := h3 p hin.1 (by omega)
        by_cases hqm : q = m
        · subst hqm; omega
        · have := h4 q (by omega) hin.2; omega
  · exact h p q k1 k2 k3 hin
/-- parts stay parted, whatever is turned within them -/
theorem Parted.swL {a b m : Nat} {ys zs : List α} (h : Parted d key a b m ys) (k : Sw d a m ys zs) : Parted d key a b m zs := by
  obtain ⟨h1, h2, h3, h4⟩ := h
  have em : kk d key zs m = kk d key ys m := by show key _ = key _; rw [k.out (.inr (Nat.le_refl _))]
  refine ⟨h1, h2, fun p p1 p2 => ?_, fun p p1 p2 => ?_⟩
  · rw [em]; exact k.all (P := fun x => key x < kk d key ys m) h3 p p1 p2
  · rw [em]
    show _ ≤ key _
    rw [k.out (.inr (by omega))]; exact h4 p p1 p2
theorem Parted.swR {a b m : Nat} {ys zs : List α} (h : Parted d key a b m ys) (k : Sw d (m + 1) b ys zs) : Parted d key a b m zs := by
  obtain ⟨h1, h2, h3, h4⟩ := h
  have em : kk d key zs m = kk d key ys m := by show key _ = key _; rw [k.out (.inl (by omega))]
  refine ⟨h1, h2, fun p p1 p2 => ?_, fun p p1 p2 => ?_⟩
  · rw [em]
    show key _ < _
    rw [k.out (.inl (by omega))]; exact h3 p p1 p2
  · rw [em]; exact k.all (P := fun x => kk d key ys m ≤ key x) (fun r r1 r2 => h4 r (by omega) r2) p (by omega) p2
variable (d key) in
/-- no two keys are alike -/
def Unl (ys : List α) : Prop := ∀ p q, p < q → q < ys.length → kk d key ys p ≠ kk d key ys q
theorem unl_iff {ys : List α} : Unl d key ys ↔ (ys.map key).Nodup := by
  unfold Unl
  rw [List.nodup_iff_pairwise_ne, List.pairwise_map, List.pairwise_iff_getElem]
  constructor
  · intro h i j hi hj hij
    have := h i j hij hj
    simpa [kk, List.getD_eq_getElem?_getD, hi, hj] using this
  · intro h p q hpq hq
    have := h p q (by omega) hq hpq
    have hp : p < ys.length := by omega
    simpa [kk, List.getD_eq_getElem?_getD, hp, hq] using this
theorem Unl.sw {a b : Nat} {ys zs : List α} (h : Unl d key ys) (k : Sw d a b ys zs) : Unl d key zs := by
  rw [unl_iff] at h ⊢
  exact (k.perm.map key).nodup_iff.2 h
variable (d key) in
/-- what stands ahead of a part is less than all of it -/
def Ahead (a b : Nat) (ys : List α) : Prop := 0 < a → ∀ p, a ≤ p → p < b → kk d key ys (a - 1) < kk d key ys p
theorem Ahead.zero {b : Nat} {ys : List α} : Ahead d key 0 b ys := fun h => absurd h (Nat.lt_irrefl _)
theorem Ahead.sw {a b : Nat} {ys zs : List α} (h : Ahead d key a b ys) (k : Sw d a b ys zs) : Ahead d key a b zs := by
  intro h0 p h1 h2
  show key _ < _
  rw [k.out (.inl (by omega))]
  exact k.all (P := fun x => key (ys.getD (a - 1) d) < key x) (fun r r1 r2 => h h0 r r1 r2) p h1 h2
theorem Ahead.cut {a b b' : Nat} {ys : List α} (h : Ahead d key a b ys) (hb : b' ≤ b) : Ahead d key a b' ys := fun h0 p h1 h2 => h h0 p h1 (by omega)
theorem Ahead.right {a b m : Nat} {ys : List α} (hp : Parted d key a b m ys) (hu : Unl d key ys) (hl : b ≤ ys.length) : Ahead d key (m + 1) b ys := by
  intro _ p h1 h2
  have h3 := hp.2.2.2 p (by omega) h2
  have h4 := hu m p (by omega) (by omega)
  show kk d key ys (m + 1 - 1) < _
  rw [Nat.add_sub_cancel]
  omega
end
end Go.Er
