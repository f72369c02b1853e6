/-
  Trees and the sets of the leaves that they lost: the plain law.
-/
import Derived.Test.YtblphhclfloodaaT2
import Derived.Test.YtblphhclfloodaaM1
namespace Go.Er
open Go
section
variable {sl sr : Key → Key} {seed : Key}
theorem root_inM {n : Int} : InN (root seed) n ↔ 0 ≤ n ∧ n < 131072 := by
  have hm : many (root seed).depth = 131072 := many_zero
  unfold InN
  rw [hm]
  show (0 : Int) ≤ n ∧ n < 0 + 131072 ↔ _
  omega
theorem one_inM {n : Int} : (∃ x ∈ [root seed], InN x n) ↔ 0 ≤ n ∧ n < 131072 := by
  constructor
  · rintro ⟨x, hx, hi⟩
    rw [List.mem_singleton] at hx; subst hx
    exact root_inM.1 hi
  · exact fun h => ⟨root seed, List.mem_singleton.2 rfl, root_inM.2 h⟩
theorem tree0_has {l : List Int} {n : Int} (h0 : 0 ≤ n) (h1 : n < 131072) : (∃ x ∈ tree0 sl sr seed l, InN x n) ↔ n ∉ l :=
  canon_has 17 (root seed) rfl n (root_inM.2 ⟨h0, h1⟩)
theorem tree0_in {l : List Int} {n : Int} (h : ∃ x ∈ tree0 sl sr seed l, InN x n) : 0 ≤ n ∧ n < 131072 ∧ n ∉ l := by
  obtain ⟨x, hx, hi⟩ := h
  have h1 := root_inM.1 (canon_sub 17 (root seed) rfl x hx n hi)
  exact ⟨h1.1, h1.2, (tree0_has h1.1 h1.2).1 ⟨x, hx, hi⟩⟩
theorem keyR_two {xs : List Held} {n : Int} {k : Key} {ok : Bool} (h : KeyR sl sr xs n k ok) : (ok = true ∧ ∃ x ∈ xs, InN x n) ∨ (ok = false ∧ k = By.zero 32 ∧ ¬ ∃ x ∈ xs, InN x n) := by
  rcases h with ⟨h, x, hx, hi, _⟩ | h
  · exact .inl ⟨h, x, hx, hi⟩
  · exact .inr h
theorem ins_iff {la ls : List Int} {n : Int} (h : ∀ m, m ∈ ls ↔ m ∈ la) : ∀ m, m ∈ ins ls n ↔ m ∈ n :: la := by
  intro m
  rw [mem_ins, h, List.mem_cons]
  exact or_comm
/-- what a loop that punctures and keeps a set knows -/
def Lost (sl sr : Key → Key) (seed : Key) (la ls : List Int) : Prop :=
  (∀ n, n ∈ ls ↔ n ∈ la ∧ n < 131072) ∧ cnt (tree0 sl sr seed la) = 131072 - (ls.length : Int) ∧ (tree0 sl sr seed la).length ≤ 1 + 17 * ls.length
theorem lost_nil : Lost sl sr seed [] [] := by
  refine ⟨by simp, ?_, ?_⟩
  · rw [tree0_nil, cnt_cons]
    have : many (root seed).depth = 131072 := many_zero
    rw [this]; simp [cnt]
  · rw [tree0_nil]; simp
theorem lost_in {la ls : List Int} {n : Int} (h : Lost sl sr seed la ls) (h0 : 0 ≤ n) (h1 : n < 131072) : Lost sl sr seed (n :: la) (ins ls n) := by
  obtain ⟨hm, hc, hl⟩ := h
  have hm' : ∀ m, m ∈ ins ls n ↔ m ∈ n :: la ∧ m < 131072 := by
    intro m
    rw [mem_ins, hm, List.mem_cons]
    constructor
    · rintro (⟨h, hb⟩ | rfl)
      · exact ⟨.inr h, hb⟩
      · exact ⟨.inl rfl, h1⟩
    · rintro ⟨rfl | h, hb⟩
      · exact .inr rfl
      · exact .inl ⟨h, hb⟩
  by_cases hn : n ∈ ls
  · have hg : ¬ ∃ x ∈ tree0 sl sr seed la, InN x n := gone ((hm n).1 hn).1
    refine ⟨hm', ?_, ?_⟩
    · rw [← tree0_punc, punc_off hg]; unfold ins; rw [if_pos hn]; exact hc
    · rw [← tree0_punc, punc_off hg]; unfold ins; rw [if_pos hn]; exact hl
  · have hnl : n ∉ la := fun h => hn ((hm n).2 ⟨h, h1⟩)
    obtain ⟨x, hx, hi⟩ := (tree0_has (sl := sl) (sr := sr) (seed := seed) h0 h1).2 hnl
    obtain ⟨i, hil, rfl⟩ := nd_mem hx
    have hln := len_tree (sl := sl) (sr := sr) (n := n) (tree0_valid (sl := sl) (sr := sr) (seed := seed) la)
    refine ⟨hm', ?_, ?_⟩
    · rw [← tree0_punc, cnt_punc (tree0_valid la) hil hi, hc]; unfold ins; rw [if_neg hn, List.length_append, List.length_singleton]; omega
    · rw [← tree0_punc]; unfold ins; rw [if_neg hn, List.length_append, List.length_singleton]; omega
theorem lost_out {la ls : List Int} {n : Int} (h : Lost sl sr seed la ls) (h1 : ¬ n < 131072) : Lost sl sr seed (n :: la) ls := by
  obtain ⟨hm, hc, hl⟩ := h
  have hg : ¬ ∃ x ∈ tree0 sl sr seed la, InN x n := fun h => h1 (tree0_in h).2.1
  refine ⟨fun m => ?_, ?_, ?_⟩
  · rw [hm, List.mem_cons]
    constructor
    · rintro ⟨h, hb⟩; exact ⟨.inr h, hb⟩
    · rintro ⟨rfl | h, hb⟩
      · exact absurd hb h1
      · exact ⟨h, hb⟩
  · rw [← tree0_punc, punc_off hg]; exact hc
  · rw [← tree0_punc, punc_off hg]; exact hl
end
section
variable {P : Program} {w : World} {l : Fr} {d : Option Tmp} {ty : TypeId} {pos : String} {after : Array Edge} {g : Option (Nat × Bool)} {x y : Operand} {T K E : TypeId} {b : Nat} {ls : List Int} {n : Int}
theorem r_lookupY (h : n ∈ ls) (hu : Und P T (.map K E)) (hk : Und P K (.int .u64)) (hz : Zero P E (.bool false)) (hx : evl l x = .map (some b)) (hy : evl l y = .int .u64 n) (hb : w.heap[b]? = some (mapO ls)) :
    (execOp (evl l) ⟨d, .lookup T x y false, ty, pos, after, g⟩).run P w = .ok (.value (.bool true)) w := by
  rw [r_lookup hu hk hz hx hy hb, decide_eq_true h]
theorem r_lookupN (h : n ∉ ls) (hu : Und P T (.map K E)) (hk : Und P K (.int .u64)) (hz : Zero P E (.bool false)) (hx : evl l x = .map (some b)) (hy : evl l y = .int .u64 n) (hb : w.heap[b]? = some (mapO ls)) :
    (execOp (evl l) ⟨d, .lookup T x y false, ty, pos, after, g⟩).run P w = .ok (.value (.bool false)) w := by
  rw [r_lookup hu hk hz hx hy hb, decide_eq_false h]
end
end Go.Er
