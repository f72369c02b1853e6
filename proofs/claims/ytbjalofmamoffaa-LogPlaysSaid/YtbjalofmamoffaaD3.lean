/-
  Logs: what a log knows, its blocks.
-/
import Derived.Test.YtbjalofmamoffaaD2
namespace Go.Er
open Go
structure LS where
  C : List Sec
  gens : List Int
  head : Int
  slot : Int
  known : Int
  g : Int
  z : Int
def lgC (bm : Nat) (ci : Value) (g z : Int) (bu n : Nat) (h s k : Int) : List Value := [.pointer (some ⟨bm, 0, none⟩), ci, .int .i64 g, .int .i64 z, .slice (some ⟨bu, 0, none⟩) n n, .int .i64 h, .int .i64 s, .int .u64 k]
theorem lgC_sh (bm : Nat) (ci : Value) (g z : Int) (bu n : Nat) (h s k : Int) : ((lgC bm ci g z bu n h s k).drop (0 + 2)).take 2 = shC g z := rfl
structure LogF (x : LS) : Prop where
  g0 : 3 ≤ x.g
  g1 : x.g ≤ 64
  z0 : 1 ≤ x.z
  z1 : x.z ≤ 32
  gl : (x.gens.length : Int) = x.g
  cl : (x.C.length : Int) = 2 + x.g * x.z
  u : U64 x.gens
  h : -1 ≤ x.head ∧ x.head < x.g
  s : 0 ≤ x.slot ∧ x.slot ≤ x.z
  k : 0 ≤ x.known ∧ x.known < 1000000000
  kg : ∀ n ∈ x.gens, n ≤ x.known
/-- a log as it is read -/
def LogR (fG : FuncId) (TC TL : TypeId) (w : World) (bl : Nat) (x : LS) : Prop := ∃ bm cs bu T fz T2 fz2, w.heap[bl]? = some (.cells (lgC bm (.iface TL (.agg (cs : List Value).toArray)) x.g x.z bu x.gens.length x.head x.slot x.known).toArray T fz) ∧ w.heap[bu]? = some (.cells (uC x.gens).toArray T2 fz2) ∧ MirR fG TC TL w bm x.C ∧ LogF x
theorem LogR.st {fG : FuncId} {TC TL : TypeId} {w0 w : World} {L : List (Nat × Obj)} {bl : Nat} {x : LS} (h : LogR fG TC TL w0 bl x) (H : St w0 [] w L) : LogR fG TC TL w bl x := by
  obtain ⟨bm, cs, bu, T, fz, T2, fz2, h1, h2, h3, h4⟩ := h
  exact ⟨bm, cs, bu, T, fz, T2, fz2, H.rd0 h1, H.rd0 h2, h3.st H, h4⟩
/-- a log as blocks of one's own -/
def LogN (E : TypeId) (fG : FuncId) (TC TL : TypeId) (bl : Nat) (x : LS) (q : Nat) (N : List (Nat × Obj)) : Prop := ∃ bm cs bu T T2 Nm, N = (bl, .cells (lgC bm (.iface TL (.agg (cs : List Value).toArray)) x.g x.z bu x.gens.length x.head x.slot x.known).toArray T (0, 0)) :: (bu, .cells (uC x.gens).toArray T2 (0, 0)) :: Nm ∧ MirN E fG TC TL bm x.C q Nm ∧ LogF x
theorem LogN.rdM {E : TypeId} {fG : FuncId} {TC TL : TypeId} {w0 w : World} {X : List Nat} {L : List (Nat × Obj)} {bl q : Nat} {x : LS} {N : List (Nat × Obj)} (h : LogN E fG TC TL bl x q N) (hq : q ≤ 100000) (H : St w0 X w L) (hs : ∀ p ∈ N, p ∈ L) : LogR fG TC TL w bl x := by
  obtain ⟨bm, cs, bu, T, T2, Nm, rfl, hm, hf⟩ := h
  exact ⟨bm, cs, bu, T, (0, 0), T2, (0, 0), H.own (bl, _) (hs _ List.mem_cons_self), H.own (bu, _) (hs _ (List.mem_cons_of_mem _ List.mem_cons_self)), hm.rdM hq H (fun p hp => hs _ (List.mem_cons_of_mem _ (List.mem_cons_of_mem _ hp))), hf⟩
theorem uC_at (ns : List Int) {i o : Nat} (hi : i < ns.length) (he : o = i) : (uC ns)[o]? = some (.int .u64 (ns.getD i 0)) := by
  have h := u_get [] ns [] (off := 0) (o := o) i rfl hi (by omega)
  rwa [List.nil_append, List.append_nil] at h
theorem uC_set (ns : List Int) (i : Nat) (x : Int) {o : Nat} (ho : o = i) : (uC ns).set o (.int .u64 x) = uC (ns.set i x) := by
  subst ho; unfold uC; rw [List.map_set]
/-- the generation of a segment; nought where there is none -/
def genAt (ns : List Int) (s : Int) : Int := if 0 ≤ s then ns.getD s.toNat 0 else 0
theorem seg_rng {n g z : Int} (h0 : 2 ≤ n) (h1 : n < 2 + g * z) (hz : 1 ≤ z) : 0 ≤ (n - 2) / z ∧ (n - 2) / z < g := by
  refine ⟨Int.ediv_nonneg (by omega) (by omega), ?_⟩
  exact Int.ediv_lt_of_lt_mul (by omega) (by omega)
/-- how many slots the first segments leave -/
def rmL (ns : List Int) (z n0 : Int) : Nat → Int
  | 0 => n0
  | i + 1 => if ns.getD i 0 = 0 then rmL ns z n0 i + z else rmL ns z n0 i
theorem rmL_rng {ns : List Int} {z n0 : Int} (hz0 : 0 ≤ z) (hz1 : z ≤ 32) : ∀ i, n0 ≤ rmL ns z n0 i ∧ rmL ns z n0 i ≤ n0 + 32 * (i : Int)
  | 0 => ⟨Int.le_refl _, by unfold rmL; omega⟩
  | i + 1 => by
    have h := rmL_rng (ns := ns) (n0 := n0) hz0 hz1 i
    unfold rmL
    split <;> omega
/-- a segment is freed -/
def freeL (x : LS) (s : Int) : LS × Int :=
  if ¬ (0 ≤ s ∧ s < x.g) then (x, 2) else if x.gens.getD s.toNat 0 = 0 then (x, 7) else if s = x.head then (x, 12) else ({ x with gens := x.gens.set s.toNat 0 }, 0)
theorem U64.set {ns : List Int} (h : U64 ns) {i : Nat} {y : Int} (h0 : 0 ≤ y) (h1 : y < 18446744073709551616) : U64 (ns.set i y) := by
  intro n hn
  rcases List.mem_or_eq_of_mem_set hn with h2 | rfl
  · exact h n h2
  · exact ⟨h0, h1⟩
theorem LogF.free {x : LS} (h : LogF x) (i : Nat) : LogF { x with gens := x.gens.set i 0 } := by
  refine ⟨h.g0, h.g1, h.z0, h.z1, by show ((x.gens.set i 0).length : Int) = _; rw [List.length_set]; exact h.gl, h.cl, h.u.set (by omega) (by omega), h.h, h.s, h.k, ?_⟩
  intro n hn
  rcases List.mem_or_eq_of_mem_set hn with h2 | rfl
  · exact h.kg n h2
  · exact h.k.1
/-- a body is put into a slot -/
def putL (x : LS) (s t gn : Int) (body : List UInt8) : LS :=
  { x with C := x.C.set (2 + s * x.z + t).toNat (sealS (2 + s * x.z + t) gn body), gens := x.gens.set s.toNat gn, head := s, slot := t + 1, known := if gn > x.known then gn else x.known }
theorem LogF.put {x : LS} (h : LogF x) {s t gn : Int} {body : List UInt8} (hs0 : 0 ≤ s) (hs1 : s < x.g) (ht0 : 0 ≤ t) (ht1 : t < x.z) (hg0 : 0 ≤ gn) (hg1 : gn ≤ x.known + 1) (hk : x.known + 1 < 1000000000) : LogF (putL x s t gn body) := by
  have hk0 := h.k.1
  refine ⟨h.g0, h.g1, h.z0, h.z1, by show ((x.gens.set s.toNat gn).length : Int) = _; rw [List.length_set]; exact h.gl, by show ((x.C.set _ _).length : Int) = _; rw [List.length_set]; exact h.cl, h.u.set hg0 (by omega), ⟨by show -1 ≤ s; omega, hs1⟩, ⟨by show 0 ≤ t + 1; omega, by show t + 1 ≤ x.z; omega⟩, ?_, ?_⟩
  · show 0 ≤ (if gn > x.known then gn else x.known) ∧ (if gn > x.known then gn else x.known) < 1000000000
    split <;> omega
  · intro n hn
    show n ≤ (if gn > x.known then gn else x.known)
    rcases List.mem_or_eq_of_mem_set hn with h2 | rfl
    · have := h.kg n h2
      split <;> omega
    · split <;> omega
/-- a body is appended: the log then, the sector, the error -/
def appL (x : LS) (body : List UInt8) : LS × Int × Int :=
  if 103 < body.length then (x, 0, 3)
  else if 0 ≤ x.head ∧ x.slot < x.z then (putL x x.head x.slot (x.gens.getD x.head.toNat 0) body, 2 + x.head * x.z + x.slot, 0)
  else if 0 ≤ firstZ x.gens then (putL x (firstZ x.gens) 0 (x.known + 1) body, 2 + firstZ x.gens * x.z + 0, 0)
  else (x, 0, 6)
def room (x : LS) : Int := rmL x.gens x.z (if 0 ≤ x.head then x.z - x.slot else 0) x.gens.length
end Go.Er
