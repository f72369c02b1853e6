/-
  Three trees: which leaves they lost, whose blocks turn, and bytes that are the same just if nodes are.
-/
import Derived.Test.YtblphhclfloodaaDoorT2
import Derived.Test.YtblphhclfloodaaDoorF7
namespace Go.Er
open Go
theorem ord_eq8 {sl sr : Key → Key} {seed : Key} {ms la lb : List Int} {b : Int} (hla : ∀ n, n ∈ la ↔ n ∈ ms) (hlb : ∀ n ∈ lb, n ∈ ms) (hlc : ∀ j : Nat, j < ms.length → ∀ k : Nat, k < ms.length → (k : Int) = ((j : Int) + b) % (ms.length : Int) → ms.getD k 0 ∈ lb) : tree0 sl sr seed la = tree0 sl sr seed lb := by
  refine tree0_congr fun n _ _ => ⟨fun h => ?_, fun h => (hla n).2 (hlb n h)⟩
  obtain ⟨m, hm, rfl⟩ := List.getElem_of_mem ((hla n).1 h)
  have hp : (0 : Int) < (ms.length : Int) := by omega
  have h0 := Int.emod_nonneg ((m : Int) - b) (by omega : (ms.length : Int) ≠ 0)
  have h1 := Int.emod_lt_of_pos ((m : Int) - b) hp
  have h2 := hlc (((m : Int) - b) % (ms.length : Int)).toNat (by omega) m hm (by
    rw [Int.toNat_of_nonneg h0, Int.emod_add_emod, Int.sub_add_cancel, Int.emod_eq_of_lt (by omega) (by omega)])
  rwa [List.getD_eq_getElem?_getD, List.getElem?_eq_getElem hm] at h2
theorem ord_a8 {ns la : List Int} {i : Nat} {x : Int} (hi : i < ns.length) (hx : x = ns.getD i 0) (h : ∀ n, n ∈ la ↔ n ∈ ns.take i) : ∀ n, n ∈ x :: la ↔ n ∈ ns.take (i + 1) := by
  subst hx
  intro n
  rw [List.take_succ_eq_append_getElem hi, List.mem_append, List.mem_singleton, List.mem_cons, h n, List.getD_eq_getElem?_getD, List.getElem?_eq_getElem hi]
  exact or_comm
theorem ord_b8 {ns lb : List Int} {x : Int} {k : Nat} (h : ∀ n ∈ lb, n ∈ ns) (hk : k < ns.length) (hx : x = ns.getD k 0) : ∀ n ∈ x :: lb, n ∈ ns := by
  subst hx
  intro n hn
  rcases List.mem_cons.1 hn with rfl | hn
  · exact getD_mem hk
  · exact h n hn
theorem ord_c8 {ns lb : List Int} {i k : Nat} {b x : Int} (h : ∀ j : Nat, j < i → ∀ k : Nat, k < ns.length → (k : Int) = ((j : Int) + b) % (ns.length : Int) → ns.getD k 0 ∈ lb) (hk : (k : Int) = ((i : Int) + b) % (ns.length : Int)) (hx : x = ns.getD k 0) : ∀ j : Nat, j < i + 1 → ∀ k' : Nat, k' < ns.length → (k' : Int) = ((j : Int) + b) % (ns.length : Int) → ns.getD k' 0 ∈ x :: lb := by
  subst hx
  intro j hj k' hk' he
  by_cases hji : j = i
  · subst hji
    have : k' = k := by omega
    subst this
    exact List.mem_cons_self
  · exact List.mem_cons_of_mem _ (h j (by omega) k' hk' he)
/-- the leaves that numbers mean -/
def leaves (ns : List Int) : List Int := ns.map (· % 131072)
theorem leaves_length (ns : List Int) : (leaves ns).length = ns.length := List.length_map ..
theorem leaves_get (ns : List Int) (i : Nat) : ns.getD i 0 % 131072 = (leaves ns).getD i 0 := by
  simp only [leaves, List.getD_eq_getElem?_getD, List.getElem?_map]
  cases ns[i]? <;> rfl
section
variable {w0 w w' : World} {X : List Nat} {Na Nb Nc N R : List (Nat × Obj)}
theorem St.tr1 (h : St w0 X w (Na ++ R)) (hc : St w (Na.map (·.1)) w' N) : St w0 X w' (N ++ R) := St.call h hc
theorem St.tr2 (h : St w0 X w (Na ++ (Nb ++ R))) (hc : St w (Nb.map (·.1)) w' N) : St w0 X w' (Na ++ (N ++ R)) :=
  (St.call (h.perm (List.perm_append_comm_assoc Nb Na R)) hc).perm (List.perm_append_comm_assoc Na N R)
theorem St.tr3 (h : St w0 X w (Na ++ (Nb ++ Nc))) (hc : St w (Nc.map (·.1)) w' N) : St w0 X w' (Na ++ (Nb ++ N)) := by
  have h1 : St w0 X w ((Na ++ Nb) ++ Nc) := by rw [List.append_assoc]; exact h
  have h2 : St w0 X w' ((Na ++ Nb) ++ N) := St.callr (L := Na ++ Nb) h1 hc
  rwa [List.append_assoc] at h2
end
theorem enc_inj {xs zs : List Held} (hx : Valid xs) (hz : Valid zs) (h : encB xs = encB zs) : xs = zs := by
  have hl : xs.length = zs.length := by
    have h1 := encB_length xs
    have h2 := encB_length zs
    rw [h] at h1; omega
  rw [← dec_enc hx, ← dec_enc hz, h, hl]
theorem enc_same {xs zs : List Held} (hx : Valid xs) (hz : Valid zs) : (decide (encB xs = encB zs) == decide (xs = zs)) = true := by
  by_cases h : xs = zs
  · subst h; rw [decide_eq_true rfl, decide_eq_true rfl]; rfl
  · rw [decide_eq_false h, decide_eq_false (fun e => h (enc_inj hx hz e))]; rfl
section
variable {P : Program} {w : World} {l : Fr} {x y : Operand} {T T'' : TypeId} {d : Option Nat} {ty : TypeId} {pos : String} {after : Array Edge} {g : Option (Nat × Bool)}
theorem r_eqlTy {s : List UInt8} (hx : evl l x = .string (bytesS s)) (hy : evl l y = .string (bytesS s)) : (execOp (evl l) ⟨d, .binOp .eql T x y T'', ty, pos, after, g⟩).run P w = .ok (.value (.bool true)) w := by
  have h := r_eqlT (P := P) (w := w) (T := T) (T'' := T'') (d := d) (ty := ty) (pos := pos) (after := after) (g := g) hx hy
  rwa [decide_eq_true rfl] at h
end
end Go.Er
