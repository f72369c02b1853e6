/-
  Mirrors: two devices of one content, no place stale.
-/
import Derived.Test.YtbjalofmamoffaaD1
namespace Go.Er
open Go
def bI (x y : Nat) (i : Nat) : Nat := if i = 0 then x else y
def sdC (bd mp : Nat) : List Value := [.pointer (some ⟨bd, 0, none⟩), .map (some mp)]
def mC (ba ma bb mb n : Nat) (g : Value) : List Value := [.pointer (some ⟨ba, 0, none⟩), .map (some ma), .pointer (some ⟨bb, 0, none⟩), .map (some mb), .int .i64 (n : Nat), g]
theorem mC_side {ba ma bb mb n i o : Nat} {g : Value} (hi : i < 2) (ho : o = i * 2) : ((mC ba ma bb mb n g).drop o).take 2 = sdC (bI ba bb i) (bI ma mb i) := by
  subst ho
  obtain rfl | rfl : i = 0 ∨ i = 1 := by omega
  · rfl
  · rfl
theorem mC_dev {ba ma bb mb n i o : Nat} {g : Value} (hi : i < 2) (ho : o = i * 2) : (mC ba ma bb mb n g)[o]? = some (.pointer (some ⟨bI ba bb i, 0, none⟩)) := by
  subst ho
  obtain rfl | rfl : i = 0 ∨ i = 1 := by omega
  · rfl
  · rfl
theorem mC_map {ba ma bb mb n i o : Nat} {g : Value} (hi : i < 2) (ho : o = i * 2 + 1) : (mC ba ma bb mb n g)[o]? = some (.map (some (bI ma mb i))) := by
  subst ho
  obtain rfl | rfl : i = 0 ∨ i = 1 := by omega
  · rfl
  · rfl
theorem sdC_length (a b : Nat) : (sdC a b).length = 2 := rfl
theorem sdC_td (a b : Nat) : ((sdC a b).drop 0).take 2 = sdC a b := rfl
theorem sdC_one (a b : Nat) : ∀ v ∈ sdC a b, v.oneCell' = true := by
  intro v hv
  simp only [sdC, List.mem_cons, List.not_mem_nil, or_false] at hv
  rcases hv with rfl | rfl <;> rfl
def iC (i : Nat) : List Value := (List.range i).map fun k => .int .i64 (k : Nat)
theorem iC_succ (i : Nat) : iC (i + 1) = iC i ++ [.int .i64 (i : Nat)] := by simp [iC, List.range_succ]
theorem iC_get {i k : Nat} (h : k < i) : (iC i)[k]? = some (.int .i64 (k : Nat)) := by simp [iC, h]
theorem iC_at {i k o : Nat} {sp : List Value} (h : k < i) (ho : o = k) : (iC i ++ sp)[o]? = some (.int .i64 (k : Nat)) := by
  subst ho
  rw [List.getElem?_append_left (by simpa [iC] using h)]
  exact iC_get h
theorem iC_length (i : Nat) : (iC i).length = i := by simp [iC]
/-- what tells whether a sector may stand at a place -/
def GoodR (fG : FuncId) (TC TL : TypeId) (w : World) (g : Value) : Prop := ∃ bg cs, g = .func (.func fG) #[] #[.pointer (some ⟨bg, 0, none⟩)] ∧ w.heap[bg]? = some (.cells [.iface TL (.agg (cs : List Value).toArray)].toArray TC (0, 0))
theorem GoodR.st {fG : FuncId} {TC TL : TypeId} {w0 w : World} {L : List (Nat × Obj)} {g : Value} (h : GoodR fG TC TL w0 g) (H : St w0 [] w L) : GoodR fG TC TL w g := by
  obtain ⟨a, b, e, hb⟩ := h
  exact ⟨a, b, e, H.rd0 hb⟩
/-- a mirror as it is read -/
def MirR (fG : FuncId) (TC TL : TypeId) (w : World) (bm : Nat) (C : List Sec) : Prop := ∃ ba ma bb mb g T fz, w.heap[bm]? = some (.cells (mC ba ma bb mb C.length g).toArray T fz) ∧ (∀ i, DevR w (bI ba bb i) C) ∧ (∀ i, w.heap[bI ma mb i]? = some mapZ) ∧ GoodR fG TC TL w g ∧ C.length ≤ 4096
theorem MirR.st {fG : FuncId} {TC TL : TypeId} {w0 w : World} {L : List (Nat × Obj)} {bm : Nat} {C : List Sec} (h : MirR fG TC TL w0 bm C) (H : St w0 [] w L) : MirR fG TC TL w bm C := by
  obtain ⟨ba, ma, bb, mb, g, T, fz, h1, h2, h3, h4, h5⟩ := h
  exact ⟨ba, ma, bb, mb, g, T, fz, H.rd0 h1, fun i => (h2 i).st H, fun i => H.rd0 (h3 i), h4.st H, h5⟩
section
variable {P : Program} {w : World} {l : Fr} {x y : Operand} {T T' : TypeId} {d : Option Nat} {ty : TypeId} {pos : String} {after : Array Edge} {g : Option (Nat × Bool)}
theorem r_minE {args : List Operand} {k k' : IntKind} {p q r : Int} {at_ : Array TypeId} (ha : Evs l args [.int k p, .int k' q]) (hr : (if q < p then q else p) = r) :
    (execOp (evl l) ⟨d, .call ⟨.builtin .min, args.toArray, at_⟩, ty, pos, after, g⟩).run P w = .ok (.value (.int k r)) w := by
  subst hr
  simp [execOp, resolve, invoke, builtin, Builtin.min_, Builtin.min2, ha.map]
theorem r_callvF {f : FuncId} {args : List Operand} {us vs fs cs : List Value} {at_ : Array TypeId} (hf : Ent P f) (hx : evl l x = .func (.func f) fs.toArray cs.toArray) (ha : Evs l args us) (hv : fs ++ us ++ cs = vs) :
    (execOp (evl l) ⟨d, .call ⟨.value x, args.toArray, at_⟩, ty, pos, after, g⟩).run P w = .ok (.enter f vs.toArray) w := by
  subst hv
  obtain rfl := ha.map
  have h := hf (fs ++ args.map (evl l) ++ cs).toArray w
  simp [execOp, resolve, hx, Deferred.ofValue, invoke]
  simpa using h
theorem r_nnilf {D : TypeDesc} {f : Fn} {fs cs : Array Value} (hu : Und P T D) (hD : ∃ a b c, D = .func a b c) (hx : evl l x = .func f fs cs) (hy : evl l y = .nilFunc) : (execOp (evl l) ⟨d, .binOp .neq T x y T', ty, pos, after, g⟩).run P w = .ok (.value (.bool true)) w := by
  obtain ⟨a, b, c, rfl⟩ := hD
  have h : ∀ n, (Op.equalIn (n + 1) T (.func f fs cs) .nilFunc).run P w = .ok false w := fun n => by simp [Op.equalIn, hu w]
  simp only [execOp, hx, hy, eqGuard, binOp]
  simp [equal_of h]
end
theorem DevN.mono {E : TypeId} {bd bp q q' : Nat} {C : List Sec} {N : List (Nat × Obj)} (h : DevN E bd bp C q N) (hq : q ≤ q') : DevN E bd bp C q' N := by
  obtain ⟨bs, aw, capw, ss, ws, T, T2, Nw, rfl, hw, hC, hin, hl⟩ := h
  exact ⟨bs, aw, capw, ss, ws, T, T2, Nw, rfl, hw, hC, hin, by omega⟩
/-- a mirror as blocks of one's own -/
def MirN (E : TypeId) (fG : FuncId) (TC TL : TypeId) (bm : Nat) (C : List Sec) (q : Nat) (N : List (Nat × Obj)) : Prop := ∃ ba ma bb mb bg cs bp lf ac nc cc T Tp Na Nb,
  N = (bm, .cells (mC ba ma bb mb C.length (.func (.func fG) #[] #[.pointer (some ⟨bg, 0, none⟩)])).toArray T (0, 0)) :: (ma, mapZ) :: (mb, mapZ) :: (bg, .cells [.iface TL (.agg (cs : List Value).toArray)].toArray TC (0, 0)) :: (bp, .cells (pC lf ac nc cc).toArray Tp (0, 0)) :: (Na ++ Nb) ∧
  DevN E ba bp C q Na ∧ DevN E bb bp C q Nb ∧ C.length ≤ 4096
theorem MirN.rdM {w0 w : World} {X : List Nat} {L : List (Nat × Obj)} {E : TypeId} {fG : FuncId} {TC TL : TypeId} {bm q : Nat} {C : List Sec} {N : List (Nat × Obj)} (h : MirN E fG TC TL bm C q N) (hq : q ≤ 100000) (H : St w0 X w L) (hs : ∀ p ∈ N, p ∈ L) : MirR fG TC TL w bm C := by
  obtain ⟨ba, ma, bb, mb, bg, cs, bp, lf, ac, nc, cc, T, Tp, Na, Nb, rfl, hA, hB, hl⟩ := h
  have hp : (bp, Obj.cells (pC lf ac nc cc).toArray Tp (0, 0)) ∈ L := hs _ (by simp)
  refine ⟨ba, ma, bb, mb, _, T, (0, 0), H.own (bm, _) (hs _ (by simp)), fun i => ?_, fun i => ?_, ⟨bg, cs, rfl, H.own (bg, _) (hs _ (by simp))⟩, hl⟩
  · unfold bI; split
    · exact hA.rdM (by omega) H hp (fun p hp => hs _ (by simp [hp]))
    · exact hB.rdM (by omega) H hp (fun p hp => hs _ (by simp [hp]))
  · unfold bI; split
    · exact H.own (ma, mapZ) (hs _ (List.mem_cons_of_mem _ List.mem_cons_self))
    · exact H.own (mb, mapZ) (hs _ (List.mem_cons_of_mem _ (List.mem_cons_of_mem _ List.mem_cons_self)))
section
variable {w0 w w' : World} {X : List Nat} {A Na Nb N2 : List (Nat × Obj)} {p p' : Nat × Obj}
theorem St.dev1 (h : St w0 X w (A ++ (p :: (Na ++ Nb)))) (hc : St w (p.1 :: Na.map (·.1)) w' (p' :: N2)) : St w0 X w' (A ++ (p' :: (N2 ++ Nb))) := by
  have e1 : ((p :: Na) ++ (A ++ Nb)).Perm (A ++ (p :: (Na ++ Nb))) := by
    have := (List.perm_append_comm (l₁ := A) (l₂ := p :: Na)).append_right Nb
    simpa using this.symm
  have h2 : St w0 X w' ((p' :: N2) ++ (A ++ Nb)) := St.call (F := p :: Na) (h.perm e1) hc
  have e2 : (A ++ (p' :: (N2 ++ Nb))).Perm ((p' :: N2) ++ (A ++ Nb)) := by
    have := (List.perm_append_comm (l₁ := A) (l₂ := p' :: N2)).append_right Nb
    simpa using this
  exact h2.perm e2
theorem St.dev2 (h : St w0 X w (A ++ (p :: (Na ++ Nb)))) (hc : St w (p.1 :: Nb.map (·.1)) w' (p' :: N2)) : St w0 X w' (A ++ (p' :: (Na ++ N2))) := by
  have e0 : (A ++ (p :: (Nb ++ Na))).Perm (A ++ (p :: (Na ++ Nb))) := (List.perm_append_comm.cons p).append_left A
  have h2 := St.dev1 (h.perm e0) hc
  exact h2.perm ((List.perm_append_comm.cons p').append_left A)
end
/-- a mirror that is being made -/
def mcI (ba ma bb mb n : Nat) (g : Value) (i : Nat) : List Value :=
  if i = 0 then [.pointer none, .map none, .pointer none, .map none, .int .i64 (n : Nat), g]
  else if i = 1 then [.pointer (some ⟨ba, 0, none⟩), .map (some ma), .pointer none, .map none, .int .i64 (n : Nat), g]
  else mC ba ma bb mb n g
theorem mcI_length (ba ma bb mb n : Nat) (g : Value) (i : Nat) : (mcI ba ma bb mb n g i).length = 6 := by
  unfold mcI; split
  · rfl
  · split <;> rfl
theorem mcI_4 (ba ma bb mb n : Nat) (g : Value) (i : Nat) : (mcI ba ma bb mb n g i)[4]? = some (.int .i64 (n : Nat)) := by
  unfold mcI; split
  · rfl
  · split <;> rfl
def MapsAt (i ma mb : Nat) (N : List (Nat × Obj)) : Prop := (i = 0 ∧ N = []) ∨ (i = 1 ∧ N = [(ma, mapZ)]) ∨ (i = 2 ∧ N = [(mb, mapZ), (ma, mapZ)])
def dnC (i : Nat) : List Value := [.bool (decide (0 < i)), .bool (decide (1 < i))]
theorem dn_at {j o : Nat} (h : j < 2) (ho : o = j) : (dnC 2)[o]? = some (.bool true) := by
  subst ho
  obtain rfl | rfl : o = 0 ∨ o = 1 := by omega
  · rfl
  · rfl
/-- what is read at a place: what stands there, if it is sealed -/
def mirS (C : List Sec) (n : Int) : Prop := Sealed n (sd C n.toNat)
end Go.Er
