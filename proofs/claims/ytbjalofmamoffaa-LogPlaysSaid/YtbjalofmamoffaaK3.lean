/-
  Regions that draw their order.
-/
import Derived.Test.YtbjalofmamoffaaK2
namespace Go.Er
open Go

section
variable {P : Program} {Q : Exit → Act → World → Prop} {S : World → Prop} {w0 w : World} {X : List Nat} {L L1 L' : List (Nat × Obj)} {l l' : List Value} {F : Fr} {d : Option Tmp} {op : Op} {ty : TypeId} {pos : String} {after : Array Edge}
  {ops : List Oper} {n i j k m : Nat} {listed listed' : List Bool} {v : Value}

@[irreducible] def RG (P : Program) (ops : List Oper) (Q : Exit → Act → World → Prop) (S : World → Prop) (n : Nat) (listed : List Bool) (F : Fr) (w : World) : Prop :=
  wpAnyH P .any ops.toArray Q S n listed.toArray ⟨F.all.toArray, []⟩ w

theorem d_begin {id sz : Nat} {Lb : List (Nat × Obj)} (hz : l.length = sz ∧ Nat.ble sz 1000 = true) (hm : P.follows .mixedOrders = true) (H : St w0 X w L) (_ : St w0 X w Lb) (hn : ops.length = n)
    (h : ∀ w, St w0 X w L → RG P ops Q (fun W => St w0 X W Lb) n (List.replicate n false) ⟨[], l, sz, hz⟩ w) : (Code.region id ops.toArray true).wp P Q ⟨l.toArray, []⟩ w := by
  refine wp_region_held (S := fun W => St w0 X W Lb) hm ?_
  have h' := h { w with drawn := w.drawn + 1 } (H.drew (Nat.le_succ _))
  subst hn
  unfold RG at h'
  rw [Fr.all_nil] at h'
  simpa using h'

def Ready (ops : List Oper) (listed : List Bool) : List Nat := Region.ready .any ops.toArray listed.toArray

theorem d_done (hr : Ready ops listed = []) (hl : F.all = l') (h : Q .normal ⟨l'.toArray, []⟩ w) : RG P ops Q S n listed F w := by subst hl; unfold RG; exact wpAnyH_done hr h n

/-- may number i be taken first? -/
def May1 (ops : List Oper) (listed : List Bool) (i : Nat) : Bool := Region.noSelect ops.toArray && Region.free .any ops.toArray listed.toArray i && (Ready ops listed).contains i

theorem d_takeY {o : Oper} (hi : ops[i]? = some o) (hc : May1 ops listed i = true) (hQ : ∀ c (a : Act) w, Q (.panic c) (a.put o.dst v) w → Q (.panic c) a w)
    (hy : YieldsIf P ops.toArray S o v ⟨F.all.toArray, []⟩) (hS : S w) (hl : listed.set i true = listed') (h : RG P ops Q S n listed' (putl F o.dst v) w) : RG P ops Q S (n + 1) listed F w := by
  subst hl
  simp only [May1, Bool.and_eq_true] at hc
  unfold RG at h ⊢
  refine wpAnyH_take (i := i) (oi := o) (by simpa using hi) hc.1.1 hc.1.2 hc.2 hQ hy hS ?_
  rw [put_putl]
  simpa using h

theorem d_take (hi : ops[i]? = some ⟨d, op, ty, pos, after, none⟩) (hc : May1 ops listed i = true) (hQ : ∀ c (a : Act) w, Q (.panic c) (a.put d v) w → Q (.panic c) a w)
    (hS : S w) (hy : ∀ w, S w → (execOp (evl F) ⟨d, op, ty, pos, after, none⟩).run P w = .ok (.value v) w) (hl : listed.set i true = listed') (h : RG P ops Q S n listed' (putl F d v) w) : RG P ops Q S (n + 1) listed F w :=
  d_takeY hi hc hQ (.inl ⟨by simp [Region.wanted], fun w hw => by rw [eval_evl]; exact hy w hw⟩) hS hl h

theorem d_takeG {g : Nat} {want : Bool} {t : Tmp} (hi : ops[i]? = some ⟨d, op, ty, pos, after, some (g, want)⟩) (hc : May1 ops listed i = true) (hQ : ∀ c (a : Act) w, Q (.panic c) (a.put d v) w → Q (.panic c) a w)
    (ht : (ops[g]?).bind (·.dst) = some t) (hb : evo F (.tmp t) = some (.bool want))
    (hS : S w) (hy : ∀ w, S w → (execOp (evl F) ⟨d, op, ty, pos, after, some (g, want)⟩).run P w = .ok (.value v) w) (hl : listed.set i true = listed') (h : RG P ops Q S n listed' (putl F d v) w) : RG P ops Q S (n + 1) listed F w :=
  d_takeY hi hc hQ (.inl ⟨by simp only [Region.wanted]; rw [evl_guardOk (t := t) (b := want) (by simpa using ht) hb]; simp, fun w hw => by rw [eval_evl]; exact hy w hw⟩) hS hl h

theorem d_takeN {g : Nat} {want b : Bool} {t : Tmp} (hi : ops[i]? = some ⟨d, op, ty, pos, after, some (g, want)⟩) (hc : May1 ops listed i = true) (hQ : ∀ c (a : Act) w, Q (.panic c) (a.put d undef) w → Q (.panic c) a w)
    (ht : (ops[g]?).bind (·.dst) = some t) (hb : evo F (.tmp t) = some (.bool b)) (hne : b ≠ want)
    (hS : S w) (hl : listed.set i true = listed') (h : RG P ops Q S n listed' (putl F d undef) w) : RG P ops Q S (n + 1) listed F w :=
  d_takeY hi hc hQ (.inr ⟨by simp only [Region.wanted]; rw [evl_guardOk (t := t) (b := b) (by simpa using ht) hb]; simpa using hne, rfl⟩) hS hl h

theorem d_takeU {g : Nat} {want : Bool} {t : Tmp} (hi : ops[i]? = some ⟨d, op, ty, pos, after, some (g, want)⟩) (hc : May1 ops listed i = true) (hQ : ∀ c (a : Act) w, Q (.panic c) (a.put d undef) w → Q (.panic c) a w)
    (ht : (ops[g]?).bind (·.dst) = some t) (hb : evo F (.tmp t) = some undef)
    (hS : S w) (hl : listed.set i true = listed') (h : RG P ops Q S n listed' (putl F d undef) w) : RG P ops Q S (n + 1) listed F w := by
  refine d_takeY hi hc hQ (.inr ⟨?_, rfl⟩) hS hl h
  have hy : yielded ops.toArray F.all.toArray g = none := evl_guardU (by simpa using ht) hb
  simp only [Region.wanted]; rw [hy]; simp

/-- a test: the ways part -/
theorem d_part {p : Prop} [Decidable p] {t : Nat} (kt : p → RG P ops Q S n listed (putl F (some t) (.bool true)) w) (kf : ¬ p → RG P ops Q S n listed (putl F (some t) (.bool false)) w) : RG P ops Q S n listed (putl F (some t) (.bool (decide p))) w := by
  by_cases h : p
  · rw [decide_eq_true h]; exact kt h
  · rw [decide_eq_false h]; exact kf h
theorem d_partb {b : Bool} {t : Nat} (kt : b = true → RG P ops Q S n listed (putl F (some t) (.bool true)) w) (kf : b = false → RG P ops Q S n listed (putl F (some t) (.bool false)) w) : RG P ops Q S n listed (putl F (some t) (.bool b)) w := by
  cases b
  · exact kf rfl
  · exact kt rfl

/-- number i comes up -/
@[irreducible] def Br (P : Program) (ops : List Oper) (Q : Exit → Act → World → Prop) (S : World → Prop) (n : Nat) (listed : List Bool) (i : Nat) (F : Fr) (w : World) : Prop :=
  wpOp P ops.toArray Q i (fun a' w' => S w' ∧ wpAnyH P .any ops.toArray Q S n (listed.set i true).toArray a' w') ⟨F.all.toArray, []⟩ w

theorem d_all1 (hr : Ready ops listed = [i]) (h : Br P ops Q S n listed i F w) : RG P ops Q S (n + 1) listed F w := by
  unfold RG
  refine wpAnyH_all hr (by simp) ?_
  intro x hx
  simp only [List.mem_singleton] at hx
  subst hx
  simpa [Br] using h
theorem d_all2 (hr : Ready ops listed = [i, j]) (h1 : Br P ops Q S n listed i F w) (h2 : Br P ops Q S n listed j F w) : RG P ops Q S (n + 1) listed F w := by
  unfold RG
  refine wpAnyH_all hr (by simp) ?_
  intro x hx
  simp only [List.mem_cons, List.not_mem_nil, or_false] at hx
  rcases hx with rfl | rfl
  · simpa [Br] using h1
  · simpa [Br] using h2
theorem d_all3 (hr : Ready ops listed = [i, j, k]) (h1 : Br P ops Q S n listed i F w) (h2 : Br P ops Q S n listed j F w) (h3 : Br P ops Q S n listed k F w) : RG P ops Q S (n + 1) listed F w := by
  unfold RG
  refine wpAnyH_all hr (by simp) ?_
  intro x hx
  simp only [List.mem_cons, List.not_mem_nil, or_false] at hx
  rcases hx with rfl | rfl | rfl
  · simpa [Br] using h1
  · simpa [Br] using h2
  · simpa [Br] using h3
theorem d_all4 (hr : Ready ops listed = [i, j, k, m]) (h1 : Br P ops Q S n listed i F w) (h2 : Br P ops Q S n listed j F w) (h3 : Br P ops Q S n listed k F w) (h4 : Br P ops Q S n listed m F w) : RG P ops Q S (n + 1) listed F w := by
  unfold RG
  refine wpAnyH_all hr (by simp) ?_
  intro x hx
  simp only [List.mem_cons, List.not_mem_nil, or_false] at hx
  rcases hx with rfl | rfl | rfl | rfl
  · simpa [Br] using h1
  · simpa [Br] using h2
  · simpa [Br] using h3
  · simpa [Br] using h4

/-- the guard of an operation says yes -/
def Go1 (ops : List Oper) (o : Oper) (F : Fr) : Prop := Region.wanted o (yielded ops.toArray F.all.toArray) = true
theorem go_none : Go1 ops ⟨d, op, ty, pos, after, none⟩ F := by simp [Go1, Region.wanted]
theorem go_some {g : Nat} {want : Bool} {t : Tmp} (ht : (ops[g]?).bind (·.dst) = some t) (hb : evo F (.tmp t) = some (.bool want)) : Go1 ops ⟨d, op, ty, pos, after, some (g, want)⟩ F := by
  simp only [Go1, Region.wanted]; rw [evl_guardOk (t := t) (b := want) (by simpa using ht) hb]; simp

theorem b_st {o : Oper} (hi : ops[i]? = some o) (hg : Go1 ops o F) (hr : ∃ w', (execOp (evl F) o).run P w = .ok .skip w' ∧ St w0 X w' L1) (hL : L1 = L') (hl : listed.set i true = listed')
    (hS : ∀ w, St w0 X w L' → S w) (h : ∀ w, St w0 X w L' → RG P ops Q S n listed' (putl F o.dst undef) w) : Br P ops Q S n listed i F w := by
  subst hL hl
  obtain ⟨w', hr, hst⟩ := hr
  unfold Br wpOp
  simp only [List.getElem?_toArray, hi]
  unfold Go1 at hg
  rw [if_pos hg]
  refine .inl ?_
  unfold Oper.wp
  rw [eval_evl, hr, Oper.upon_skip, put_putl]
  have h := h _ hst
  unfold RG at h
  exact ⟨hS _ hst, h⟩

theorem b_new {o : Oper} {V : Nat → Value} {N : Nat → Nat × Obj} (hi : ops[i]? = some o) (hg : Go1 ops o F) (hr : ∃ w' b, (execOp (evl F) o).run P w = .ok (.value (V b)) w' ∧ St w0 X w' (N b :: L)) (hl : listed.set i true = listed')
    (hS : ∀ w b, St w0 X w (N b :: L) → S w) (h : ∀ w b, St w0 X w (N b :: L) → RG P ops Q S n listed' (putl F o.dst (V b)) w) : Br P ops Q S n listed i F w := by
  subst hl
  obtain ⟨w', b, hr, hst⟩ := hr
  unfold Br wpOp
  simp only [List.getElem?_toArray, hi]
  unfold Go1 at hg
  rw [if_pos hg]
  refine .inl ?_
  unfold Oper.wp
  rw [eval_evl, hr, Oper.upon_value, put_putl]
  have h := h _ _ hst
  unfold RG at h
  exact ⟨hS _ _ hst, h⟩

theorem b_val {o : Oper} (hi : ops[i]? = some o) (hg : Go1 ops o F) (hr : (execOp (evl F) o).run P w = .ok (.value v) w) (hl : listed.set i true = listed')
    (hS : S w) (h : RG P ops Q S n listed' (putl F o.dst v) w) : Br P ops Q S n listed i F w := by
  subst hl
  unfold Br wpOp
  simp only [List.getElem?_toArray, hi]
  unfold Go1 at hg
  rw [if_pos hg]
  refine .inl ?_
  unfold Oper.wp
  rw [eval_evl, hr, Oper.upon_value, put_putl]
  unfold RG at h
  exact ⟨hS, h⟩

theorem b_any {o : Oper} {R : Value → World → Prop} (hi : ops[i]? = some o) (hg : Go1 ops o F) (hr : ∃ v w', (execOp (evl F) o).run P w = .ok (.value v) w' ∧ R v w') (hl : listed.set i true = listed')
    (hS : ∀ v w, R v w → S w) (h : ∀ v w, R v w → RG P ops Q S n listed' (putl F o.dst v) w) : Br P ops Q S n listed i F w := by
  subst hl
  obtain ⟨v, w', hr, hR⟩ := hr
  unfold Br wpOp
  simp only [List.getElem?_toArray, hi]
  unfold Go1 at hg
  rw [if_pos hg]
  refine .inl ?_
  unfold Oper.wp
  rw [eval_evl, hr, Oper.upon_value, put_putl]
  have h := h _ _ hR
  unfold RG at h
  exact ⟨hS _ _ hR, h⟩

theorem b_call {o : Oper} {f : FuncId} {args : Array Value} {R : Value → World → Prop} (hi : ops[i]? = some o) (hg : Go1 ops o F) (hr : (execOp (evl F) o).run P w = .ok (.enter f args) w)
    (hc : Calls P f args w fun e w' => ∃ v, e = .returned v ∧ R v w') (hl : listed.set i true = listed') (h : ∀ v w', R v w' → S w' ∧ RG P ops Q S n listed' (putl F o.dst v) w') : Br P ops Q S n listed i F w := by
  subst hl
  unfold Br wpOp
  simp only [List.getElem?_toArray, hi]
  unfold Go1 at hg
  rw [if_pos hg]
  refine .inl ?_
  unfold Oper.wp
  rw [eval_evl, hr, Oper.upon_enter]
  refine hc.mono fun e w' h' => ?_
  obtain ⟨v, rfl, hR⟩ := h'
  simp only []
  rw [put_putl]
  have h := h v w' hR
  unfold RG at h
  exact h

end
end Go.Er
