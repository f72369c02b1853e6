/-
  What a row of nodes gives an append.
-/
import Derived.Test.YtbjalofmamoffaaP6
import Derived.Test.YtbjalofmamoffaaK5
namespace Go.Er
open Go
section
variable {P : Program} {w0 w : World} {X : List Nat} {L L1 : List (Nat × Obj)} {l : Fr} {d : Option Tmp} {ty : TypeId} {pos : String} {after : Array Edge} {g : Option (Nat × Bool)}
  {x y z : Operand} {T T' E E' : TypeId} {b off sz len cap : Nat} {a : Option Addr}
theorem HRow.src {xs : List Held} (h : HRow w a xs) (c : Nat) : Src P w 34 (.slice a xs.length c) xs.length (hsC xs) := by
  refine ⟨by simp [Builtin.lenOf], fun k => ?_, by rw [hsC_length]; omega, hsC_one xs⟩
  by_cases h0 : 0 < xs.length
  · obtain ⟨b, off, pre, post, T, fz, rfl, hb, hp⟩ := h h0
    simp only [Builtin.firstCells]
    refine run_loadRow (w := { w with drawn := k }) hb ?_ (by rw [hsC_length]; omega)
    subst hp
    rw [List.append_assoc, List.drop_append, List.drop_of_length_le (Nat.le_refl _), List.nil_append, Nat.sub_self, List.drop_zero, List.take_append, List.take_of_length_le (by rw [hsC_length]; omega)]
    have : xs.length * 34 - (hsC xs).length = 0 := by rw [hsC_length]; omega
    rw [this]; simp
  · have e : xs = [] := List.length_eq_zero_iff.1 (by omega)
    subst e
    cases a with
    | none => simp [Builtin.firstCells, hsC]
    | some a =>
      simp only [Builtin.firstCells]
      refine run_loadCells_list (P := P) { w with drawn := k } a [] fun j v hj => ?_
      simp at hj
/-- onto an empty literal -/
theorem m_append_lit {T2 : TypeId} {D2 : TypeDesc} {vs : List Value} {z u : Value} {ti : TypeInfo} {m : Nat} {args : List Operand}
    (H : St w0 X w ((b, .cells ([] : List Value).toArray E (0, 0)) :: L)) (hu : Und P T (.slice E)) (hu2 : Und P T2 D2) (hD : ∀ q, D2 ≠ .int q) (hs : Size P E sz) (hz : Zero P E z) (hzs : z.cells.size = sz) (hi : ∀ w, (typeInfo E).run P w = .ok ti w)
    (hby : 0 < ti.bytes) (hroom : (0 + m) * ti.bytes ≤ 140737488355328) (ha : Evs l args [.slice (some ⟨b, 0, none⟩) 0 0, u]) (hx : Src P w sz u m vs) :
    ∃ v w', (execOp (evl l) ⟨d, .call ⟨.builtin .append, args.toArray, [T, T2].toArray⟩, ty, pos, after, g⟩).run P w = .ok (.value v) w' ∧
      ∃ a' cap' N', v = .slice a' m cap' ∧ RowN sz E vs m a' cap' N' ∧ St w0 X w' (N' ++ L) := by
  have hk : ((b, Obj.cells ([] : List Value).toArray E (0, 0)) :: L)[0]? = some (b, .cells (([] : List Value) ++ []).toArray E (0, 0)) := rfl
  obtain ⟨v, w', hr, b', cap', sp', rfl, hc, hnc, H'⟩ := m_append_own2 H 0 hu hu2 hD hs hz hzs hi hk (by simp) (by simp) hby hroom ha hx
  refine ⟨_, w', hr, some ⟨b', 0, none⟩, cap', [(b', .cells (vs ++ sp').toArray E (0, 0))], by rw [Nat.zero_add], ⟨by simpa using hx.size, by omega, .inr ⟨b', sp', rfl, by simpa using hc, rfl⟩⟩, ?_⟩
  simpa using H'

theorem RowN.hrowM {xs : List Held} {n : Nat} {N : List (Nat × Obj)} (h : RowN 34 E (hsC xs) n a cap N) (H : St w0 X w L) (hs : ∀ p ∈ N, p ∈ L) : HRow w a xs := by
  intro hx
  obtain ⟨hl, _, ⟨rfl, _⟩ | ⟨b, sp, rfl, _, rfl⟩⟩ := h
  · rw [hsC_length] at hl; omega
  · exact ⟨b, 0, [], sp, E, (0, 0), rfl, H.own (b, _) (hs _ (List.mem_singleton.2 rfl)), rfl⟩
theorem RowN.hmem {xs : List Held} {n : Nat} {N : List (Nat × Obj)} (h : RowN 34 E (hsC xs) n a cap N) (hs : ∀ p ∈ N, p ∈ L) (hx : 0 < xs.length) : ∃ b sp, a = some ⟨b, 0, none⟩ ∧ (b, Obj.cells ([] ++ hsC xs ++ sp).toArray E (0, 0)) ∈ L := by
  obtain ⟨hl, _, ⟨rfl, _⟩ | ⟨b, sp, rfl, _, rfl⟩⟩ := h
  · rw [hsC_length] at hl; omega
  · exact ⟨b, sp, rfl, hs _ (List.mem_singleton.2 rfl)⟩
theorem RowN.some {cs : List Value} {n : Nat} {N : List (Nat × Obj)} (h : RowN sz E cs n a cap N) (hn : 0 < n) : ∃ b sp, a = some ⟨b, 0, none⟩ ∧ cap * sz ≤ (cs ++ sp).length ∧ N = [(b, .cells (cs ++ sp).toArray E (0, 0))] ∧ n ≤ cap := by
  obtain ⟨_, hnc, ⟨rfl, _⟩ | ⟨b, sp, rfl, hc, rfl⟩⟩ := h
  · omega
  · exact ⟨b, sp, rfl, hc, rfl, hnc⟩
theorem RowN.mk {cs sp : List Value} {n : Nat} (hl : cs.length = n * sz) (hn : n ≤ cap) (hc : cap * sz ≤ (cs ++ sp).length) : RowN sz E cs n (Option.some ⟨b, 0, none⟩) cap [(b, .cells (cs ++ sp).toArray E (0, 0))] := ⟨hl, hn, .inr ⟨b, sp, rfl, hc, rfl⟩⟩
theorem r_buildA {n : Nat} {pl : List (Nat × Nat)} {zs out : List Value} {parts : List (Nat × Operand)} {pv : List (Nat × Value)} (hu : Und P T (.array n E)) (hs : Size P E sz) (hz : Zero P T (.agg zs.toArray))
    (hv : EvP l parts pv) (hpl : ∀ p ∈ pv, (some (p.1 * sz, sz) : Option (Nat × Nat)) = pl[p.1]?) (hf : fillL pl zs pv = some out) : (execOp (evl l) ⟨d, .build T parts.toArray, ty, pos, after, g⟩).run P w = .ok (.value (.agg out.toArray)) w := by
  have h1 := fill_eq pl (fun i => some (i * sz, sz)) pv zs hpl hf
  have h2 := hv.map
  have h4 : (Array.map (fun (x : Nat × Operand) => match x with | (i, x) => (i, evl l x)) parts.toArray).toList = pv := by
    rw [← h2]; simp
  simp only [execOp, Instr.build, Sem.run_bind, hz w, Result.andThen_ok, hu w, hs w, Value.cells]
  rw [h4, h1]
  rfl
theorem kfill1 {n : Nat} {k : By (n + 1)} {v : UInt8} {i : Int} (hk : k.1 = v :: List.replicate n 0) (hi : i = (v.toNat : Int)) : fillL [(0, 1)] (kC (By.zero (n + 1))) [(0, .int .u8 i)] = some (kC k) := by
  subst hi
  have e : kC k = .int .u8 (v.toNat : Int) :: bC (List.replicate n 0) := by unfold kC; rw [hk]; rfl
  have e0 : kC (By.zero (n + 1)) = .int .u8 0 :: bC (List.replicate n 0) := rfl
  rw [e, e0]
  simp [fillL, Value.cells, splice]
end
end Go.Er
