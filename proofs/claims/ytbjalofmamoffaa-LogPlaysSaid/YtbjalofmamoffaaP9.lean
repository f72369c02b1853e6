/-
  The plain law of layer 6: what is held behind any punctures depends on which leaves they were, and on nothing else.
-/
import Derived.Test.YtbjalofmamoffaaP8
namespace Go.Er
open Go

section
variable (sl sr : Key → Key)
def hits (l : List Int) (h : Held) : Prop := ∃ n ∈ l, InN h n
instance (l : List Int) (h : Held) : Decidable (hits l h) := by unfold hits; infer_instance
/-- what is held of a node without some leaves -/
def canon (l : List Int) : Nat → Held → List Held
  | 0, h => if hits l h then [] else [h]
  | k + 1, h => if hits l h then canon l k (kidL sl h) ++ canon l k (kidR sr h) else [h]
variable {sl sr}
theorem canon_miss {l : List Int} {k : Nat} {h : Held} (hn : ¬ hits l h) : canon sl sr l k h = [h] := by cases k <;> simp [canon, hn]
theorem kid_in {h : Held} {n : Int} (hd : h.depth < 17) : (InN (kidL sl h) n → InN h n) ∧ (InN (kidR sr h) n → InN h n) := by
  have hm := kid_many hd
  have hp := many_pos (h.depth + 1)
  unfold InN kidL kidR
  dsimp only
  omega
theorem canon_congr {l l' : List Int} : ∀ (k : Nat) (h : Held), h.depth = 17 - k → (∀ n, InN h n → (n ∈ l ↔ n ∈ l')) → canon sl sr l k h = canon sl sr l' k h
  | 0, h, _, hc => by
    have e : hits l h ↔ hits l' h := ⟨fun ⟨n, h1, h2⟩ => ⟨n, (hc n h2).1 h1, h2⟩, fun ⟨n, h1, h2⟩ => ⟨n, (hc n h2).2 h1, h2⟩⟩
    simp only [canon, e]
  | k + 1, h, hd, hc => by
    have e : hits l h ↔ hits l' h := ⟨fun ⟨n, h1, h2⟩ => ⟨n, (hc n h2).1 h1, h2⟩, fun ⟨n, h1, h2⟩ => ⟨n, (hc n h2).2 h1, h2⟩⟩
    have hk := fun n => kid_in (sl := sl) (sr := sr) (h := h) (n := n) (by omega)
    simp only [canon, e, canon_congr k (kidL sl h) (by show h.depth + 1 = _; omega) (fun n hn => hc n ((hk n).1 hn)), canon_congr k (kidR sr h) (by show h.depth + 1 = _; omega) (fun n hn => hc n ((hk n).2 hn))]
theorem woF_canon : ∀ (k : Nat) (h : Held) (n : Int), woF sl sr k h n = canon sl sr [n] k h
  | 0, h, n => by simp [woF, canon, hits]
  | k + 1, h, n => by simp [woF, canon, hits, woF_canon k]
theorem hits_cons {l : List Int} {n : Int} {h : Held} : hits (n :: l) h ↔ InN h n ∨ hits l h := by
  constructor
  · rintro ⟨m, hm, hi⟩
    rcases List.mem_cons.1 hm with rfl | hm
    · exact .inl hi
    · exact .inr ⟨m, hm, hi⟩
  · rintro (h1 | ⟨m, hm, hi⟩)
    · exact ⟨n, List.mem_cons_self, h1⟩
    · exact ⟨m, List.mem_cons_of_mem _ hm, hi⟩
theorem wo_canon {k : Nat} {h : Held} {n : Int} {l : List Int} (hd : h.depth = 17 - k) (hn : ¬ hits l h) : wo sl sr h n = canon sl sr (n :: l) k h := by
  have e : (17 - h.depth).toNat = k := by omega
  unfold wo
  rw [e, woF_canon]
  refine canon_congr k h hd fun m hm => ?_
  simp only [List.mem_cons, List.not_mem_nil, or_false]
  exact ⟨.inl, fun h1 => h1.resolve_right fun h2 => hn ⟨m, h2, hm⟩⟩
theorem punc_canon {l : List Int} {n : Int} : ∀ (k : Nat) (h : Held), h.depth = 17 - k → punc sl sr (canon sl sr l k h) n = canon sl sr (n :: l) k h
  | 0, h, hd => by
    by_cases hh : hits l h
    · simp [canon, hh, hits_cons, punc]
    · rw [canon_miss hh, ← wo_canon hd hh]; simp [punc]
  | k + 1, h, hd => by
    by_cases hh : hits l h
    · have h1 : hits (n :: l) h := hits_cons.2 (.inr hh)
      simp only [canon, hh, h1, if_true]
      rw [punc_append, punc_canon k _ (by show h.depth + 1 = _; omega), punc_canon k _ (by show h.depth + 1 = _; omega)]
    · rw [canon_miss hh, ← wo_canon hd hh]; simp [punc]

/-- the node above all -/
def root (seed : Key) : Held := ⟨0, 0, seed⟩
/-- what a tree of a seed holds without some leaves -/
def tree0 (sl sr : Key → Key) (seed : Key) (l : List Int) : List Held := canon sl sr l 17 (root seed)
theorem root_in {seed : Key} {n : Int} : InN (root seed) n ↔ 0 ≤ n ∧ n < 131072 := by
  unfold InN root
  dsimp only
  rw [many_zero]; omega
theorem tree0_nil {seed : Key} : tree0 sl sr seed [] = [root seed] := canon_miss (fun ⟨_, h, _⟩ => nomatch h)
theorem tree0_punc {seed : Key} {l : List Int} {n : Int} : punc sl sr (tree0 sl sr seed l) n = tree0 sl sr seed (n :: l) := punc_canon 17 _ rfl
theorem tree0_congr {seed : Key} {l l' : List Int} (h : ∀ n, 0 ≤ n → n < 131072 → (n ∈ l ↔ n ∈ l')) : tree0 sl sr seed l = tree0 sl sr seed l' :=
  canon_congr 17 _ rfl fun n hn => by rw [root_in] at hn; exact h n hn.1 hn.2
theorem root_ok {seed : Key} : okN (root seed) := ⟨by show (0:Int) ≤ 0; omega, by show (0:Int) ≤ 17; omega, by show (0:Int) ≤ 0; omega, by rw [show (root seed).at_ = 0 from rfl]; exact Int.zero_emod _, by show (0:Int) < 131072; omega⟩
theorem tree0_valid {seed : Key} : ∀ (l : List Int), Valid (tree0 sl sr seed l)
  | [] => by rw [tree0_nil]; exact ⟨root_ok, Int.le_refl _, trivial⟩
  | n :: l => by rw [← tree0_punc]; exact punc_valid (tree0_valid l)

/-! ### Which leaves are left, and their keys -/
theorem canon_sub {l : List Int} : ∀ (k : Nat) (h : Held), h.depth = 17 - k → ∀ x ∈ canon sl sr l k h, ∀ n, InN x n → InN h n
  | 0, h, _, x, hx, n, hn => by
    by_cases hh : hits l h
    · simp [canon, hh] at hx
    · rw [canon_miss hh, List.mem_singleton] at hx; subst hx; exact hn
  | k + 1, h, hd, x, hx, n, hn => by
    by_cases hh : hits l h
    · have hk := kid_in (sl := sl) (sr := sr) (h := h) (n := n) (by omega)
      simp only [canon, hh, if_true, List.mem_append] at hx
      rcases hx with hx | hx
      · exact hk.1 (canon_sub k _ (by show h.depth + 1 = _; omega) x hx n hn)
      · exact hk.2 (canon_sub k _ (by show h.depth + 1 = _; omega) x hx n hn)
    · rw [canon_miss hh, List.mem_singleton] at hx; subst hx; exact hn
theorem canon_has {l : List Int} : ∀ (k : Nat) (h : Held), h.depth = 17 - k → ∀ n, InN h n → ((∃ x ∈ canon sl sr l k h, InN x n) ↔ n ∉ l)
  | 0, h, hd, n, hn => by
    have hone : ∀ m, InN h m → m = n := by
      intro m hm
      have : many h.depth = 1 := by rw [hd]; decide
      unfold InN at *; omega
    by_cases hh : hits l h
    · obtain ⟨m, hm, hi⟩ := hh
      have := hone m hi
      subst this
      simp only [canon, if_pos (show hits l h from ⟨m, hm, hi⟩)]
      exact ⟨fun ⟨_, h1, _⟩ => (nomatch h1), fun h1 => absurd hm h1⟩
    · rw [canon_miss hh]
      exact ⟨fun _ hm => hh ⟨n, hm, hn⟩, fun _ => ⟨h, List.mem_singleton.2 rfl, hn⟩⟩
  | k + 1, h, hd, n, hn => by
    by_cases hh : hits l h
    · simp only [canon, if_pos hh, List.mem_append]
      by_cases hc : (kidR sr h).at_ ≤ n
      · obtain ⟨h1, h2⟩ := inR (sl := sl) (by omega) hn hc
        rw [← canon_has k (kidR sr h) (by show h.depth + 1 = _; omega) n h2]
        constructor
        · rintro ⟨x, hx | hx, hi⟩
          · exact absurd (canon_sub k (kidL sl h) (by show h.depth + 1 = _; omega) x hx n hi) h1
          · exact ⟨x, hx, hi⟩
        · rintro ⟨x, hx, hi⟩; exact ⟨x, .inr hx, hi⟩
      · obtain ⟨h1, h2⟩ := inL (sl := sl) (by omega) hn hc
        rw [← canon_has k (kidL sl h) (by show h.depth + 1 = _; omega) n h1]
        constructor
        · rintro ⟨x, hx | hx, hi⟩
          · exact ⟨x, hx, hi⟩
          · exact absurd (canon_sub k (kidR sr h) (by show h.depth + 1 = _; omega) x hx n hi) h2
        · rintro ⟨x, hx, hi⟩; exact ⟨x, .inl hx, hi⟩
    · rw [canon_miss hh]
      exact ⟨fun _ hm => hh ⟨n, hm, hn⟩, fun _ => ⟨h, List.mem_singleton.2 rfl, hn⟩⟩
/-- the key of a leaf -/
def leafK (sl sr : Key → Key) (h : Held) (n : Int) : Key := (path sl sr (17 - h.depth).toNat h n).2.seed
theorem leafK_step {k : Nat} {h : Held} {n : Int} (hd : h.depth = 17 - ((k + 1 : Nat) : Int)) : leafK sl sr h n = if (kidR sr h).at_ ≤ n then leafK sl sr (kidR sr h) n else leafK sl sr (kidL sl h) n := by
  have e : (17 - h.depth).toNat = k + 1 := by omega
  have eL : (17 - (kidL sl h).depth).toNat = k := by show (17 - (h.depth + 1)).toNat = k; omega
  have eR : (17 - (kidR sr h).depth).toNat = k := by show (17 - (h.depth + 1)).toNat = k; omega
  unfold leafK
  rw [e, eL, eR]
  by_cases hc : (kidR sr h).at_ ≤ n
  · rw [path_R sl sr hc, if_pos hc]
  · rw [path_L sl sr hc, if_neg hc]
theorem canon_key {l : List Int} : ∀ (k : Nat) (h : Held), h.depth = 17 - k → ∀ x ∈ canon sl sr l k h, ∀ n, InN x n → leafK sl sr x n = leafK sl sr h n
  | 0, h, _, x, hx, n, _ => by
    by_cases hh : hits l h
    · simp [canon, hh] at hx
    · rw [canon_miss hh, List.mem_singleton] at hx; subst hx; rfl
  | k + 1, h, hd, x, hx, n, hn => by
    by_cases hh : hits l h
    · have hin := canon_sub (k + 1) h hd x hx n hn
      simp only [canon, hh, if_true, List.mem_append] at hx
      rw [leafK_step (k := k) hd]
      by_cases hc : (kidR sr h).at_ ≤ n
      · obtain ⟨h1, h2⟩ := inR (sl := sl) (by omega) hin hc
        rw [if_pos hc]
        rcases hx with hx | hx
        · exact absurd (canon_sub k (kidL sl h) (by show h.depth + 1 = _; omega) x hx n hn) h1
        · exact canon_key k _ (by show h.depth + 1 = _; omega) x hx n hn
      · obtain ⟨h1, h2⟩ := inL (sl := sl) (by omega) hin hc
        rw [if_neg hc]
        rcases hx with hx | hx
        · exact canon_key k _ (by show h.depth + 1 = _; omega) x hx n hn
        · exact absurd (canon_sub k (kidR sr h) (by show h.depth + 1 = _; omega) x hx n hn) h2
    · rw [canon_miss hh, List.mem_singleton] at hx; subst hx; rfl

/-! ### How many -/
def cnt (xs : List Held) : Int := (xs.map fun x => many x.depth).sum
theorem cnt_append (a b : List Held) : cnt (a ++ b) = cnt a + cnt b := by simp [cnt]
theorem cnt_cons (a : Held) (b : List Held) : cnt (a :: b) = many a.depth + cnt b := by simp [cnt]
theorem cnt_woF : ∀ (k : Nat) (h : Held) (n : Int), h.depth = 17 - k → cnt (woF sl sr k h n) = many h.depth - if InN h n then 1 else 0
  | 0, h, n, hd => by
    by_cases hi : InN h n
    · have : many h.depth = 1 := by rw [hd]; decide
      simp [woF, hi, cnt, this]
    · rw [woF_out hi, if_neg hi]; simp [cnt]
  | k + 1, h, n, hd => by
    by_cases hi : InN h n
    · rw [woF, if_pos hi, if_pos hi, cnt_append, cnt_woF k _ n (by show h.depth + 1 = _; omega), cnt_woF k _ n (by show h.depth + 1 = _; omega)]
      have hm := kid_many (h := h) (by omega)
      have e1 : (kidL sl h).depth = h.depth + 1 := rfl
      have e2 : (kidR sr h).depth = h.depth + 1 := rfl
      rw [e1, e2]
      by_cases hc : (kidR sr h).at_ ≤ n
      · obtain ⟨h1, h2⟩ := inR (sl := sl) (by omega) hi hc
        rw [if_neg h1, if_pos h2]; omega
      · obtain ⟨h1, h2⟩ := inL (sl := sl) (by omega) hi hc
        rw [if_pos h1, if_neg h2]; omega
    · rw [woF_out hi, if_neg hi]; simp [cnt]
theorem woF_len : ∀ (k : Nat) (h : Held) (n : Int), (woF sl sr k h n).length ≤ k + 1
  | 0, h, n => by simp only [woF]; split <;> simp
  | k + 1, h, n => by
    by_cases hi : InN h n
    · rw [woF, if_pos hi, List.length_append]
      by_cases h1 : InN (kidL sl h) n
      · have h2 : ¬ InN (kidR sr h) n := by
          have := many_pos (h.depth + 1)
          unfold InN kidL kidR at *
          dsimp only at *
          omega
        rw [woF_out h2]
        have := woF_len k (kidL sl h) n
        simp; omega
      · rw [woF_out h1]
        have := woF_len k (kidR sr h) n
        simp; omega
    · rw [woF_out hi]; simp
theorem cnt_punc {xs : List Held} {n : Int} (hv : Valid xs) {i : Nat} (hi : i < xs.length) (hin : InN (nd xs i) n) : cnt (punc sl sr xs n) = cnt xs - 1 := by
  have hk := hv.get hi
  rw [punc_hit hv hi hin, cnt_append, cnt_append]
  conv => rhs; rw [split_at hi]
  rw [cnt_append, cnt_cons]
  unfold wo
  rw [cnt_woF _ _ _ (by have := hk.1; have := hk.2.1; omega), if_pos hin]
  omega
theorem punc_len {xs : List Held} {n : Int} (hv : Valid xs) {i : Nat} (hi : i < xs.length) (hin : InN (nd xs i) n) : (punc sl sr xs n).length ≤ xs.length + 17 := by
  have hk := hv.get hi
  rw [punc_hit hv hi hin, List.length_append, List.length_append, List.length_take, List.length_drop]
  have := woF_len (sl := sl) (sr := sr) (17 - (nd xs i).depth).toNat (nd xs i) n
  have := hk.1
  unfold wo
  omega
end
end Go.Er
