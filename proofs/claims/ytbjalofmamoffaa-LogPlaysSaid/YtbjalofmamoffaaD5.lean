/-
  Rows that stay beside a log that is turned.
-/
import Derived.Test.YtbjalofmamoffaaD4
namespace Go.Er
open Go
section
variable {w0 w w' : World} {X : List Nat} {A N N2 L No : List (Nat × Obj)} {E : TypeId} {b : Nat} {o : Obj} {a : Option Addr} {cap : Nat}
theorem St.keepM (H : St w0 X w (A ++ N)) (h : St w (N.map (·.1)) w' L) (hm : (b, o) ∈ A) : w'.heap[b]? = some o := by
  refine h.rd (H.own (b, o) (List.mem_append_left _ hm)) fun hn => ?_
  have hnd := H.nodup
  rw [List.map_append, List.nodup_append] at hnd
  exact hnd.2.2 b (List.mem_map.2 ⟨_, hm, rfl⟩) b hn rfl
theorem RowN.browK {bs : List UInt8} {n : Nat} (h : RowN 1 E (bC bs) n a cap No) (H : St w0 X w (A ++ (No ++ N))) : ∀ w' L, St w (N.map (·.1)) w' L → BRow w' a bs := by
  intro w' L h' hx
  obtain ⟨hl, _, ⟨rfl, _⟩ | ⟨b, sp, rfl, _, rfl⟩⟩ := h
  · rw [bC_length] at hl; omega
  · rw [← List.append_assoc] at H
    exact ⟨b, 0, [], sp, E, (0, 0), rfl, H.keepM h' (List.mem_append_right _ (List.mem_singleton.2 rfl)), rfl⟩
theorem St.call3 (H : St w0 X w (A ++ (No ++ N))) (hc : St w (N.map (·.1)) w' N2) : St w0 X w' (A ++ (No ++ N2)) := by
  rw [← List.append_assoc] at H ⊢
  exact St.callr H hc
theorem St.mid4 (H : St w0 X w (No ++ (A ++ N))) : St w0 X w (A ++ (No ++ N)) := H.perm (List.perm_append_comm_assoc A No N)
theorem St.drop3 (H : St w0 X w (A ++ (No ++ N))) : St w0 X w (A ++ N) := H.sub ((List.Sublist.refl _).append (List.sublist_append_right _ _))
end
theorem bC_atA (ys : List UInt8) (sp : List Value) {i o : Nat} (hi : i < ys.length) (ho : o = i) : (bC ys ++ sp)[o]? = some (.int .u8 ((ys.getD i 0).toNat : Int)) := by
  have h := bs_getE [] ys sp (off := 0) (o := o) i rfl hi (by omega)
  rwa [List.nil_append] at h
theorem bC_inc (ys : List UInt8) (sp : List Value) {i o : Nat} {z : Int} (hi : i < ys.length) (ho : o = i) (hz : z = (((ys.getD i 0).toNat : Int) + 1) % 256) : (bC ys ++ sp).set o (.int .u8 z) = bC (ys.set i (ys.getD i 0 + 1)) ++ sp := by
  subst ho
  have e : z = ((ys.getD o 0 + 1).toNat : Int) := by
    have e1 : UInt8.toNat 1 = 1 := rfl
    rw [hz, UInt8.toNat_add, e1]
    omega
  rw [e, List.set_append_left _ _ (by rw [bC_length]; exact hi)]
  unfold bC; rw [List.map_set]
theorem getD_replicate {α : Type} (n i : Nat) (x : α) : (List.replicate n x).getD i x = x := by
  rw [List.getD_eq_getElem?_getD, List.getElem?_replicate]
  split <;> rfl
theorem PL.newL (g z : Int) (k : Int) (i : Nat) : PL (Go.Er.newL g z).C k (List.replicate 40 0) (List.replicate 40 bdZ) i := by
  refine .inl ⟨?_, getD_replicate _ _ _⟩
  show (List.replicate _ zS).getD i zS = zS
  exact getD_replicate _ _ _
theorem brow_new {w : World} (i : Nat) : BRow w ((List.replicate 40 bdZ).getD i bdZ).a ((List.replicate 40 bdZ).getD i bdZ).b := by
  rw [getD_replicate]
  exact fun h => absurd h (Nat.lt_irrefl _)
theorem brow_set {w : World} {bs : List Bd} {n : Nat} {y : Bd} (h : ∀ i, BRow w (bs.getD i bdZ).a (bs.getD i bdZ).b) (hy : BRow w y.a y.b) (hn : n < bs.length) (i : Nat) : BRow w ((bs.set n y).getD i bdZ).a ((bs.set n y).getD i bdZ).b := by
  rw [getD_set _ _ _ _ _ hn]
  split
  · exact hy
  · exact h i
theorem gz_small {g z : Int} (h1 : g ≤ 6) (h2 : 0 ≤ z) (h3 : z ≤ 4) : g * z ≤ 24 := by
  have b : g * z ≤ 6 * z := Int.mul_le_mul_of_nonneg_right h1 h2
  omega
theorem set_getD0 {ns : List Int} {i : Nat} {x : Int} (hi : i < ns.length) : (ns.set i x).getD i 0 = x := by
  rw [getD_set _ _ _ _ _ hi, if_pos rfl]
theorem xrL_free (x : LS) (i : Nat) (a b : Option Addr) (c e : Nat) : splice (xrL x a c) 0 (xrL x b e) = xrL { x with gens := x.gens.set i 0 } b e := by
  show xrL x b e = _
  unfold xrL
  rw [List.length_set]
theorem refAt_full (x : LS) : refAt (x, 0, 6) = -1 := by
  unfold refAt; rw [if_neg (show ¬ ((6 : Int) = 0) by decide)]
theorem refAt_put (x : LS) (n : Int) : refAt (x, n, 0) = n := by
  unfold refAt; rw [if_pos rfl]
theorem LogN.F {E : TypeId} {fG : FuncId} {TC TL : TypeId} {bl q : Nat} {x : LS} {N : List (Nat × Obj)} (h : LogN E fG TC TL bl x q N) : LogF x := by
  obtain ⟨_, _, _, _, _, _, _, _, hF⟩ := h
  exact hF
theorem LogN.mono {E : TypeId} {fG : FuncId} {TC TL : TypeId} {bl q q' : Nat} {x : LS} {N : List (Nat × Obj)} (h : LogN E fG TC TL bl x q N) (hq : q ≤ q') : LogN E fG TC TL bl x q' N := by
  obtain ⟨bm, cs, bu, T, T2, Nm, rfl, hm, hF⟩ := h
  obtain ⟨ba, ma, bb, mb, bg, cs', bp, lf, ac, nc, cc, T', Tp, Na, Nb, rfl, hA, hB, hl⟩ := hm
  exact ⟨bm, cs, bu, T, T2, _, rfl, ⟨ba, ma, bb, mb, bg, cs', bp, lf, ac, nc, cc, T', Tp, Na, Nb, rfl, hA.mono hq, hB.mono hq, hl⟩, hF⟩
end Go.Er
