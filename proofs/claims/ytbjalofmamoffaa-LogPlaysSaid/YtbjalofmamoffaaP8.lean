/-
  The plain law of layer 6: what is held without a leaf.
-/
import Derived.Test.YtbjalofmamoffaaP6
import Derived.Test.YtbjalofmamoffaaQ0
namespace Go.Er
open Go

section
variable (sl sr : Key → Key)
instance (h : Held) (n : Int) : Decidable (InN h n) := by unfold InN; infer_instance
/-- what is held of a node without a leaf -/
def woF : Nat → Held → Int → List Held
  | 0, h, n => if InN h n then [] else [h]
  | k + 1, h, n => if InN h n then woF k (kidL sl h) n ++ woF k (kidR sr h) n else [h]
def wo (h : Held) (n : Int) : List Held := woF sl sr (17 - h.depth).toNat h n
/-- what is held of nodes without a leaf -/
def punc (xs : List Held) (n : Int) : List Held := xs.flatMap fun h => wo sl sr h n
variable {sl sr}
theorem woF_out {k : Nat} {h : Held} {n : Int} (ho : ¬ InN h n) : woF sl sr k h n = [h] := by
  cases k <;> simp [woF, ho]
theorem wo_out {h : Held} {n : Int} (ho : ¬ InN h n) : wo sl sr h n = [h] := woF_out ho
theorem kid_many {h : Held} (hd : h.depth < 17) : many h.depth = 2 * many (h.depth + 1) := many_succ hd
theorem inL {h : Held} {n : Int} (hd : h.depth < 17) (hi : InN h n) (hc : ¬ (kidR sr h).at_ ≤ n) : InN (kidL sl h) n ∧ ¬ InN (kidR sr h) n := by
  have hm := kid_many hd
  have hp := many_pos (h.depth + 1)
  unfold InN kidL kidR at *
  dsimp only at *
  omega
theorem inR {h : Held} {n : Int} (hd : h.depth < 17) (hi : InN h n) (hc : (kidR sr h).at_ ≤ n) : ¬ InN (kidL sl h) n ∧ InN (kidR sr h) n := by
  have hm := kid_many hd
  have hp := many_pos (h.depth + 1)
  unfold InN kidL kidR at *
  dsimp only at *
  omega
theorem woF_perm : ∀ (k : Nat) (h : Held) (n : Int), h.depth = 17 - k → InN h n → (woF sl sr k h n).Perm (path sl sr k h n).1
  | 0, h, n, _, hi => by simp [woF, hi, path]
  | k + 1, h, n, hd, hi => by
    rw [woF, if_pos hi]
    by_cases hc : (kidR sr h).at_ ≤ n
    · obtain ⟨h1, h2⟩ := inR (sl := sl) (by omega) hi hc
      rw [woF_out h1, path_R sl sr hc]
      exact List.Perm.cons _ (woF_perm k _ n (by show h.depth + 1 = _; omega) h2)
    · obtain ⟨h1, h2⟩ := inL (sl := sl) (by omega) hi hc
      rw [woF_out h2, path_L sl sr hc]
      exact List.perm_append_comm.trans (List.Perm.cons _ (woF_perm k _ n (by show h.depth + 1 = _; omega) h1))
theorem okN.kidL {h : Held} (hh : okN h) (hd : h.depth < 17) : okN (kidL sl h) ∧ okN (kidR sr h) := by
  have hm := kid_many hd
  have hp := many_pos (h.depth + 1)
  have he := hh.end_le
  obtain ⟨h0, h1, h2, h3, h4⟩ := hh
  have hdv : many (h.depth + 1) ∣ h.at_ := by
    have h5 : many h.depth ∣ h.at_ := Int.dvd_of_emod_eq_zero h3
    rw [hm] at h5
    exact Int.dvd_trans (Int.dvd_mul_left _ _) h5
  refine ⟨⟨by show 0 ≤ h.depth + 1; omega, by show h.depth + 1 ≤ 17; omega, h2, Int.emod_eq_zero_of_dvd hdv, h4⟩, ?_⟩
  refine ⟨by show 0 ≤ h.depth + 1; omega, by show h.depth + 1 ≤ 17; omega, by show 0 ≤ h.at_ + many (h.depth + 1); omega, ?_, by show h.at_ + many (h.depth + 1) < 131072; omega⟩
  exact Int.emod_eq_zero_of_dvd (Int.dvd_add hdv (Int.dvd_refl _))
theorem okFrom.le {e e' : Int} {xs : List Held} (h : okFrom e xs) (he : e' ≤ e) : okFrom e' xs := by
  cases xs with
  | nil => trivial
  | cons x xs => exact ⟨h.1, by have := h.2.1; omega, h.2.2⟩
theorem woF_ok : ∀ (k : Nat) (h : Held) (n : Int) (rest : List Held), h.depth = 17 - k → okN h → okFrom (h.at_ + many h.depth) rest → okFrom h.at_ (woF sl sr k h n ++ rest)
  | 0, h, n, rest, hd, hk, hr => by
    by_cases hi : InN h n
    · simp only [woF, if_pos hi, List.nil_append]
      exact hr.le (by have := many_pos h.depth; omega)
    · rw [woF_out hi]; exact ⟨hk, Int.le_refl _, hr⟩
  | k + 1, h, n, rest, hd, hk, hr => by
    by_cases hi : InN h n
    · rw [woF, if_pos hi, List.append_assoc]
      obtain ⟨kl, kr⟩ := hk.kidL (sl := sl) (sr := sr) (by omega)
      have hm := kid_many (h := h) (by omega)
      refine woF_ok k (Go.Er.kidL sl h) n _ (by show h.depth + 1 = _; omega) kl ?_
      have := woF_ok k (kidR sr h) n rest (by show h.depth + 1 = _; omega) kr (hr.le (by show h.at_ + many (h.depth + 1) + many (h.depth + 1) ≤ _; omega))
      exact this
    · rw [woF_out hi]; exact ⟨hk, Int.le_refl _, hr⟩
theorem okFrom.append {rest : List Held} : ∀ {e : Int} {xs : List Held}, okFrom e xs → (∀ e', e ≤ e' → (∀ x ∈ xs, x.at_ + many x.depth ≤ e') → okFrom e' rest) → okFrom e (xs ++ rest)
  | e, [], _, h => h e (Int.le_refl _) (fun _ hx => nomatch hx)
  | e, x :: xs, hx, h => by
    obtain ⟨h1, h2, h3⟩ := hx
    have hp := many_pos x.depth
    refine ⟨h1, h2, okFrom.append h3 fun e' he hh => h e' (by omega) fun y hy => ?_⟩
    rcases List.mem_cons.1 hy with rfl | hy
    · exact he
    · exact hh y hy
theorem punc_ok {n : Int} : ∀ {e : Int} {xs : List Held}, okFrom e xs → okFrom e (punc sl sr xs n)
  | _, [], h => h
  | e, x :: xs, h => by
    obtain ⟨h1, h2, h3⟩ := h
    have := woF_ok (sl := sl) (sr := sr) (17 - x.depth).toNat x n (punc sl sr xs n) (by have := h1.1; have := h1.2.1; omega) h1 (punc_ok h3)
    exact okFrom.le this h2
theorem punc_valid {xs : List Held} {n : Int} (h : Valid xs) : Valid (punc sl sr xs n) := punc_ok h
theorem punc_append (xs ys : List Held) (n : Int) : punc sl sr (xs ++ ys) n = punc sl sr xs n ++ punc sl sr ys n := by simp [punc]
theorem punc_none {xs : List Held} {n : Int} (h : ∀ x ∈ xs, ¬ InN x n) : punc sl sr xs n = xs := by
  induction xs with
  | nil => rfl
  | cons x xs ih =>
    have h1 := h x List.mem_cons_self
    have h2 := ih fun y hy => h y (List.mem_cons_of_mem _ hy)
    unfold punc at h2 ⊢
    rw [List.flatMap_cons, wo_out h1, h2]; rfl
theorem nd_mem {xs : List Held} {x : Held} (h : x ∈ xs) : ∃ i, i < xs.length ∧ nd xs i = x := by
  obtain ⟨i, hi, rfl⟩ := List.mem_iff_getElem.1 h
  exact ⟨i, hi, (nd_eq hi).symm⟩
theorem punc_miss {xs : List Held} {n : Int} {i : Nat} (h : FindR xs n i false) : punc sl sr xs n = xs := by
  rcases h with ⟨h, _⟩ | ⟨_, _, h⟩
  · cases h
  · exact punc_none fun x hx => by
      obtain ⟨j, hj, rfl⟩ := nd_mem hx
      exact h j hj
theorem one_in {xs : List Held} {n : Int} (hv : Valid xs) {i j : Nat} (hi : i < xs.length) (hj : j < xs.length) (h1 : InN (nd xs i) n) (h2 : InN (nd xs j) n) : i = j := by
  rcases Nat.lt_trichotomy i j with h | h | h
  · have := hv.lt h hj
    have := h1.2; have := h2.1
    omega
  · exact h
  · have := hv.lt h hi
    have := h2.2; have := h1.1
    omega
theorem split_at {xs : List Held} {i : Nat} (hi : i < xs.length) : xs = xs.take i ++ nd xs i :: xs.drop (i + 1) := by
  rw [← nd_eq hi]; simp
theorem punc_hit {xs : List Held} {n : Int} (hv : Valid xs) {i : Nat} (hi : i < xs.length) (hin : InN (nd xs i) n) : punc sl sr xs n = xs.take i ++ wo sl sr (nd xs i) n ++ xs.drop (i + 1) := by
  have e := split_at hi
  have h1 : punc sl sr (xs.take i) n = xs.take i := punc_none fun x hx => by
    obtain ⟨j, hj, rfl⟩ := List.mem_iff_getElem.1 hx
    intro hc
    rw [List.length_take] at hj
    have h2 : (xs.take i)[j] = nd xs j := by rw [List.getElem_take, nd_eq (by omega)]
    rw [h2] at hc
    have := one_in hv (by omega) hi hc hin
    omega
  have h2 : punc sl sr (xs.drop (i + 1)) n = xs.drop (i + 1) := punc_none fun x hx => by
    obtain ⟨j, hj, rfl⟩ := List.mem_iff_getElem.1 hx
    intro hc
    rw [List.length_drop] at hj
    have h3 : (xs.drop (i + 1))[j] = nd xs (i + 1 + j) := by rw [List.getElem_drop, nd_eq (by omega)]
    rw [h3] at hc
    have := one_in hv (by omega) hi hc hin
    omega
  conv => lhs; rw [e]
  rw [punc_append, h1]
  have h3 : punc sl sr (nd xs i :: xs.drop (i + 1)) n = wo sl sr (nd xs i) n ++ punc sl sr (xs.drop (i + 1)) n := by simp [punc]
  rw [h3, h2, List.append_assoc]

/-! ### In order there is one row only -/
abbrev atK (h : Held) : Int := h.at_
theorem okFrom.pairwise : ∀ {e : Int} {xs : List Held}, okFrom e xs → xs.Pairwise (fun a b => atK a < atK b) ∧ ∀ x ∈ xs, e ≤ atK x
  | _, [], _ => ⟨.nil, fun _ h => nomatch h⟩
  | e, x :: xs, ⟨h1, h2, h3⟩ => by
    obtain ⟨i1, i2⟩ := okFrom.pairwise h3
    have hp := many_pos x.depth
    refine ⟨List.pairwise_cons.2 ⟨fun y hy => ?_, i1⟩, fun y hy => ?_⟩
    · have := i2 y hy
      show x.at_ < _
      omega
    · rcases List.mem_cons.1 hy with rfl | hy
      · exact h2
      · have := i2 y hy; omega
theorem pairwise_unl {xs : List Held} (h : xs.Pairwise fun a b => atK a < atK b) : Unl Held.zero atK xs := by
  rw [unl_iff, List.nodup_iff_pairwise_ne, List.pairwise_map]
  exact h.imp fun hab => by omega
theorem srt_pairwise {xs : List Held} (h : Srt Held.zero atK 0 xs.length xs) (hu : Unl Held.zero atK xs) : xs.Pairwise fun a b => atK a < atK b := by
  rw [List.pairwise_iff_getElem]
  intro i j hi hj hij
  have h1 := h i j (Nat.zero_le _) hij hj
  have h2 := hu i j hij hj
  simp only [kk, List.getD_eq_getElem?_getD, List.getElem?_eq_getElem hi, List.getElem?_eq_getElem hj, Option.getD_some] at h1 h2
  omega
theorem one_order {xs ys : List Held} (hx : xs.Pairwise fun a b => atK a < atK b) (hy : ys.Pairwise fun a b => atK a < atK b) (hp : xs.Perm ys) : xs = ys :=
  List.Perm.eq_of_pairwise (fun a b _ _ h1 h2 => by omega) hx hy hp
/-- what is beside the way, in order, is what is held without the leaf -/
theorem sort_wo {h : Held} {n : Int} {zs : List Held} (hk : okN h) (hi : InN h n) (hp : zs.Perm (path sl sr (17 - h.depth).toNat h n).1) (hs : Srt Held.zero atK 0 zs.length zs) : zs = wo sl sr h n := by
  have hd : h.depth = 17 - ((17 - h.depth).toNat : Int) := by have := hk.1; have := hk.2.1; omega
  have hw := woF_perm (sl := sl) (sr := sr) (17 - h.depth).toNat h n hd hi
  have ho := woF_ok (sl := sl) (sr := sr) (17 - h.depth).toNat h n [] hd hk trivial
  rw [List.append_nil] at ho
  have hpw := (okFrom.pairwise ho).1
  have hperm : zs.Perm (wo sl sr h n) := hp.trans hw.symm
  have hu : Unl Held.zero atK zs := by
    rw [unl_iff]
    exact (hperm.map atK).nodup_iff.2 (unl_iff.1 (pairwise_unl hpw))
  exact one_order (srt_pairwise hs hu) hpw hperm
theorem path_unl {h : Held} {n : Int} (hk : okN h) (hi : InN h n) : Unl Held.zero atK (path sl sr (17 - h.depth).toNat h n).1 := by
  have hd : h.depth = 17 - ((17 - h.depth).toNat : Int) := by have := hk.1; have := hk.2.1; omega
  have hw := woF_perm (sl := sl) (sr := sr) (17 - h.depth).toNat h n hd hi
  have ho := woF_ok (sl := sl) (sr := sr) (17 - h.depth).toNat h n [] hd hk trivial
  rw [List.append_nil] at ho
  rw [unl_iff]
  exact (hw.map atK).nodup_iff.1 (unl_iff.1 (pairwise_unl (okFrom.pairwise ho).1))
theorem path_len : ∀ (k : Nat) (h : Held) (n : Int), (path sl sr k h n).1.length = k
  | 0, _, _ => rfl
  | k + 1, h, n => by
    by_cases hc : (kidR sr h).at_ ≤ n
    · rw [path_R sl sr hc]; simp [path_len k]
    · rw [path_L sl sr hc]; simp [path_len k]
theorem cut_take {α : Type} {xs : List α} {i : Nat} (hi : i ≤ xs.length) (ys : List α) : (xs.take i ++ ys).take i = xs.take i := by
  rw [List.take_append, List.take_of_length_le (by rw [List.length_take]; omega), List.length_take]
  have : i - min i xs.length = 0 := by omega
  rw [this]; simp
theorem cut_drop {α : Type} {xs : List α} {i : Nat} (hi : i ≤ xs.length) (ys : List α) : (xs.take i ++ ys).drop i = ys := by
  rw [List.drop_append, List.drop_of_length_le (by rw [List.length_take]; omega), List.length_take]
  have : i - min i xs.length = 0 := by omega
  rw [this]; simp
theorem has_of {xs : List Held} {n : Int} {i : Nat} (hi : i < xs.length) (h : InN (nd xs i) n) : ∃ x ∈ xs, InN x n := ⟨nd xs i, by rw [← nd_eq hi]; exact List.getElem_mem hi, h⟩
theorem not_has {xs : List Held} {n : Int} (h : ∀ j, j < xs.length → ¬ InN (nd xs j) n) : ¬ ∃ x ∈ xs, InN x n := by
  rintro ⟨x, hx, hi⟩
  obtain ⟨j, hj, rfl⟩ := nd_mem hx
  exact h j hj hi
theorem path_none {h : Held} {n : Int} (hk : okN h) (hi : InN h n) (he : (path sl sr (17 - h.depth).toNat h n).1 = []) : ([] : List Held) = wo sl sr h n :=
  sort_wo hk hi (by rw [he]) (fun p q _ _ h3 => by simp at h3)
end
end Go.Er
