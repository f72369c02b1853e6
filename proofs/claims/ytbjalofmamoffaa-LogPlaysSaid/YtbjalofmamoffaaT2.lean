/-
  What Key tells is one; a row of one node; two trees' blocks behind one another.
-/
import Derived.Test.YtbjalofmamoffaaT1
namespace Go.Er
open Go
section
variable {sl sr : Key → Key}
theorem valid_uniq {n : Int} : ∀ {xs : List Held} {e : Int}, okFrom e xs → ∀ x ∈ xs, ∀ y ∈ xs, InN x n → InN y n → x = y
  | [], _, _, x, hx, _, _, _, _ => nomatch hx
  | h :: t, e, hv, x, hx, y, hy, hxn, hyn => by
    have far : ∀ z ∈ t, InN h n → InN z n → False := by
      intro z hz h1 h2
      obtain ⟨i, hi, rfl⟩ := nd_mem hz
      have := (hv.2.2.get i hi).2
      unfold InN at h1 h2; omega
    rcases List.mem_cons.1 hx with rfl | hx'
    · rcases List.mem_cons.1 hy with rfl | hy'
      · rfl
      · exact absurd hyn (fun h2 => far y hy' hxn h2)
    · rcases List.mem_cons.1 hy with rfl | hy'
      · exact absurd hxn (fun h2 => far x hx' hyn h2)
      · exact valid_uniq hv.2.2 x hx' y hy' hxn hyn
theorem keyR_ok {xs : List Held} {n : Int} {k : Key} {ok : Bool} (h : KeyR sl sr xs n k ok) : ok = decide (∃ x ∈ xs, InN x n) := by
  rcases h with ⟨rfl, x, hx, hi, _⟩ | ⟨rfl, _, h⟩
  · exact (decide_eq_true ⟨x, hx, hi⟩).symm
  · exact (decide_eq_false h).symm
theorem keyR_uniq {xs : List Held} {n : Int} {k k' : Key} {ok ok' : Bool} (hv : Valid xs) (h : KeyR sl sr xs n k ok) (h' : KeyR sl sr xs n k' ok') : k' = k := by
  rcases h with ⟨_, x, hx, hi, hk⟩ | ⟨_, hk, hn⟩
  · rcases h' with ⟨_, y, hy, hj, hk'⟩ | ⟨_, _, hn⟩
    · rw [hk, hk', valid_uniq hv y hy x hx hj hi]
    · exact absurd ⟨x, hx, hi⟩ hn
  · rcases h' with ⟨_, y, hy, hj, _⟩ | ⟨_, hk', _⟩
    · exact absurd ⟨y, hy, hj⟩ hn
    · rw [hk, hk']
end
theorem RowN.one {E : TypeId} {b : Nat} {x : Held} : RowN 34 E (hsC [x]) [x].length (Option.some ⟨b, 0, none⟩) 1 [(b, .cells (hC x).toArray E (0, 0))] := by
  have h := RowN.mk (sz := 34) (E := E) (cap := 1) (n := 1) (b := b) (cs := hsC [x]) (sp := []) (by rw [hsC_length]; rfl) (Nat.le_refl _) (by rw [List.append_nil, hsC_length]; exact Nat.le_refl _)
  rw [List.append_nil] at h
  have e : hsC [x] = hC x := hsC_one1 x
  rw [e] at h ⊢
  exact h
section
variable {w0 w w' : World} {X : List Nat} {Na Nb N : List (Nat × Obj)} {p q : Nat × Obj}
theorem St.trA2 (h : St w0 X w (p :: q :: (Na ++ Nb))) (hc : St w (Na.map (·.1)) w' N) : St w0 X w' (p :: q :: (N ++ Nb)) := by
  have e1 : (Na ++ p :: q :: Nb).Perm (p :: q :: (Na ++ Nb)) := List.perm_middle.trans (List.perm_middle.cons _)
  have e2 : (p :: q :: (N ++ Nb)).Perm (N ++ p :: q :: Nb) := (List.perm_middle.trans (List.perm_middle.cons _)).symm
  exact (St.call (h.perm e1) hc).perm e2
end
theorem mid2 {α : Type} {a b : α} {N1 N2 : List α} : (a :: b :: (N2 ++ N1)).Perm (N2 ++ a :: b :: N1) := by
  have h := (List.perm_append_comm (l₁ := [a, b]) (l₂ := N2)).append_right N1
  simpa using h
theorem gone {sl sr : Key → Key} {seed : Key} {l : List Int} {n : Int} (hn : n ∈ l) : ¬ ∃ x ∈ tree0 sl sr seed l, InN x n := by
  rintro ⟨x, hx, hi⟩
  exact (canon_has (sl := sl) (sr := sr) (l := l) 17 (root seed) rfl n (canon_sub 17 (root seed) rfl x hx n hi)).1 ⟨x, hx, hi⟩ hn
theorem Valid.inR {xs : List Held} (h : Valid xs) : ∀ i, i < xs.length → InR (nd xs i) := by
  intro i hi
  obtain ⟨d0, d1, a0, a1, a2⟩ := h.get hi
  exact ⟨by omega, by omega, a0, by omega⟩
end Go.Er
