/-
  A range over a function, at the state 'St': the loop's record and the block of its rounds' deferred calls are two owned blocks more.
-/
import Derived.Test.YtbjalofmamoffaaK4
import Derived.RangeFuncIn
import Derived.RangeFuncRecord
import Derived.RangeFuncCalls
import Derived.RangeFuncLeaves
namespace Go.Er
open Go

/-! ### A list of operations, in a round, or behind a mark -/
section
variable {P : Program} {ops : Array Oper} {Q Q' : Exit → Act → World → Prop} {m : Nat} {F : Fence}

/-- a fence that lets everything in -/
structure Lets (F : Fence) : Prop where
  fn : ∀ f, F.fn f
  depth : F.depth = none
  calls : ∀ {P : Program} {f : FuncId} {args : Array Value} {w : World} {R : Ending → World → Prop} {k : Nat}, Calls P f args w R → CallsIn F k P f args w R
  rows : ∀ {P : Program} {row : String} {args : Array Value} {w : World} {R : Value → World → Prop} {k : Nat}, Rows P row args w R → RowsIn F k P row args w R

theorem lets_wide : Lets Fence.wide :=
  ⟨fun _ => trivial, rfl, fun h => callsIn_wide.2 h, fun h c cs _ => let ⟨v, w', r, s⟩ := h c cs; ⟨v, w', r, stepsIn_wide.2 s⟩⟩
theorem lets_round (l : Nat) : Lets (Fence.wide.inRound l) :=
  ⟨fun _ => trivial, rfl, fun h => CallsIn.inRound l (callsIn_wide.2 h), fun h c cs _ => let ⟨v, w', r, s⟩ := h c cs; ⟨v, w', r, stepsIn_wide.2 s⟩⟩

/-- no defer statement -/
def noDefer (ops : List Oper) : Bool := ops.all fun o => match o.op with | .defer _ => false | _ => true

theorem noDefer.at {l : List Oper} (h : noDefer l = true) {i : Nat} {o : Oper} (hi : l.toArray[i]? = some o) : ∀ c, o.op ≠ .defer c := by
  intro c hc
  have h1 := List.all_eq_true.1 h o (List.mem_of_getElem? (by simpa using hi))
  rw [hc] at h1
  cases h1

theorem oper_in (hF : Lets F) {o : Oper} (ho : ∀ c, o.op ≠ .defer c) {t : Array Value} {es ds : List Deferred} {w : World} {K K' : Act → World → Prop}
    (hK : ∀ t es w, K ⟨t, es⟩ w → K' ⟨t, es ++ ds⟩ w) (hQ : ∀ c t es w, Q' (.panic c) ⟨t, es⟩ w → Q (.panic c) ⟨t, es ++ ds⟩ w) (hout : ¬ LetsOut Q') (h : o.wp P ⟨t, es⟩ w K Q') : o.wpIn F m P ⟨t, es ++ ds⟩ w K' Q := by
  refine ⟨fun _ _ => hF.fn _, ?_⟩
  have hs : Oper.semAt F.round (Act.eval ⟨t, es ++ ds⟩) o = execOp (Act.eval ⟨t, es⟩) o := Oper.semAt_eq _ _ _ ho
  rw [hs]
  unfold Oper.wp at h
  have hput : ∀ v (es : List Deferred) w, K (Act.put ⟨t, es⟩ o.dst v) w → K' (Act.put ⟨t, es ++ ds⟩ o.dst v) w := by
    intro v es w hk
    cases hd : o.dst with
    | none => rw [hd] at hk; exact hK _ _ _ hk
    | some d => rw [hd] at hk; exact hK _ _ _ hk
  generalize (execOp (Act.eval ⟨t, es⟩) o).run P w = r at h
  have hdep : F.depth.isSome = true → 1 ≤ m := by rw [hF.depth]; simp
  cases r with
  | ok x w' =>
    cases x <;> simp only [Oper.upon, Oper.uponIn] at h ⊢
    case value v => exact hput _ _ _ h
    case skip => exact hput _ _ _ h
    case defer d => exact hput _ (d :: es) _ h
    case enter f args =>
      refine ⟨hdep, hF.calls (h.mono fun e w'' he => ?_)⟩
      cases e with
      | returned v => exact hput _ _ _ he
      | panicked c => exact hQ _ _ _ _ he
      | outgrown => exact absurd he hout
    case row row args => exact ⟨hdep, hF.rows (h.mono fun v w'' he => hput _ _ _ he)⟩
  | halt x w' =>
    cases x <;> simp only [Oper.upon, Oper.uponIn] at h ⊢
    case panic v => exact hQ _ _ _ _ h

theorem opsIn (hF : Lets F) {l : List Oper} (hl : noDefer l = true) {ds : List Deferred} (hQ : ∀ e t es w, Q' e ⟨t, es⟩ w → Q e ⟨t, es ++ ds⟩ w) (hout : ¬ LetsOut Q') :
    ∀ (li : List Nat) (t : Array Value) (es : List Deferred) (w : World), wpOps P l.toArray Q' li ⟨t, es⟩ w → wpOpsIn F m P l.toArray Q li ⟨t, es ++ ds⟩ w := by
  intro li
  induction li with
  | nil => exact fun t es w h => hQ _ _ _ _ h
  | cons i rest ih =>
    intro t es w h
    simp only [wpOps, wpOpsIn] at h ⊢
    cases ho : l.toArray[i]? with
    | none => simp only [ho] at h ⊢; exact ih _ _ _ h
    | some o =>
      simp only [ho] at h ⊢
      by_cases hw : Region.wanted o (yielded l.toArray t) = true
      · simp only [hw, if_true] at h ⊢
        rcases h with h | ⟨_, h⟩
        · exact oper_in hF (noDefer.at hl ho) ih (fun c => hQ (.panic c)) hout h
        · exact absurd h hout
      · simp only [hw, if_false, Bool.false_eq_true] at h ⊢
        refine ⟨fun _ _ => hF.fn _, ?_⟩
        cases hd : o.dst with
        | none => rw [hd] at h; exact ih _ _ _ h
        | some d => rw [hd] at h; exact ih _ _ _ h

theorem listIn (hF : Lets F) {l : List Oper} (hl : noDefer l = true) {ds : List Deferred} (hQ : ∀ e t es w, Q' e ⟨t, es⟩ w → Q e ⟨t, es ++ ds⟩ w) (hout : ¬ LetsOut Q') {t : Array Value} {w : World} {id : Nat}
    (h : wpList P l.toArray Q' l ⟨t, []⟩ w) : (Code.region id l.toArray false).wpIn F m P Q ⟨t, ds⟩ w := by
  refine wpIn_region ?_
  have h1 : wpOps P l.toArray Q' (List.range l.toArray.size) ⟨t, []⟩ w := by
    rw [List.range_eq_range', ← Array.length_toList, wpOps_eq_wpList l.toArray.toList 0 (by simp)]
    exact h
  exact opsIn hF hl hQ hout _ _ [] _ h1

theorem drawIn (hF : Lets F) (hm : P.follows .mixedOrders = true) {l : List Oper} (hl : noDefer l = true) {ds : List Deferred} (hQ : ∀ e t es w, Q' e ⟨t, es⟩ w → Q e ⟨t, es ++ ds⟩ w) (hout : ¬ LetsOut Q') {S : World → Prop} {t : Array Value} {w : World} {id : Nat}
    (h : wpAnyH P .any l.toArray Q' S l.toArray.size (Array.replicate l.toArray.size false) ⟨t, []⟩ { w with drawn := w.drawn + 1 }) : (Code.region id l.toArray true).wpIn F m P Q ⟨t, ds⟩ w := by
  refine wpIn_region_draw fun s => ?_
  have h1 : wpOps P l.toArray Q' (Region.schedule (P.follows .mixedOrders) l.toArray s) ⟨t, []⟩ { w with drawn := w.drawn + 1 } := by
    simp only [Region.schedule, hm, Bool.true_or, if_true]
    exact wpAny_sound l.toArray.size s _ _ _ (wpAny_of_held _ _ _ _ h)
  exact opsIn hF hl hQ hout _ _ [] _ h1
end

section
variable {P : Program} {ops : Array Oper} {Q Q' : Exit → Act → World → Prop} {m : Nat} {F : Fence}
theorem list_pre (hF : Lets F) {ys : List Oper} (hout : ¬ LetsOut Q') (hk : ∀ a w, Q' .normal a w → wpListIn F m P ops Q ys a w) (hq : ∀ c a w, Q' (.panic c) a w → Q (.panic c) a w) :
    ∀ (xs : List Oper), noDefer xs = true → ∀ (a : Act) (w : World), wpList P ops Q' xs a w → wpListIn F m P ops Q (xs ++ ys) a w := by
  intro xs
  induction xs with
  | nil => exact fun _ a w h => hk a w h
  | cons o xs ih =>
    intro hn a w h
    simp only [noDefer, List.all_cons, Bool.and_eq_true] at hn
    obtain ⟨t, es⟩ := a
    rw [List.cons_append]
    unfold wpList at h
    unfold wpListIn
    by_cases hw : Region.wanted o (yielded ops t) = true
    · simp only [hw, if_true] at h ⊢
      rcases h with h | ⟨_, h⟩
      · have h2 := oper_in (m := m) (ds := []) (K' := wpListIn F m P ops Q (xs ++ ys)) (Q := Q) hF (fun c hc => by rw [hc] at hn; cases hn.1) (fun t es w hk => by rw [List.append_nil]; exact ih hn.2 _ _ hk) (fun c t es w hk => by rw [List.append_nil]; exact hq _ _ _ hk) hout h
        rwa [List.append_nil] at h2
      · exact absurd h hout
    · simp only [hw, if_false, Bool.false_eq_true] at h ⊢
      exact ⟨fun _ _ => hF.fn _, ih hn.2 _ _ h⟩
end

/-! ### The laws -/
section
variable {P : Program} {Q : Exit → Act → World → Prop} {w0 w : World} {X : List Nat} {L : List (Nat × Obj)} {l l' l1 l2 : List Value} {n : Nat} {ops : List Oper}

/-- what a post says of frames without marks -/
def QD (ds : List Deferred) (Q : Exit → Act → World → Prop) : Exit → Act → World → Prop := fun e a w => e ≠ .outgrown ∧ a.defers = [] ∧ Q e ⟨a.tmps, ds⟩ w
theorem QD.outs {ds : List Deferred} : ¬ LetsOut (QD ds Q) := fun ⟨_, _, h⟩ => h.1 rfl
theorem QD.to {ds : List Deferred} : ∀ e t es w, QD ds Q e ⟨t, es⟩ w → Q e ⟨t, es ++ ds⟩ w := by
  rintro e t es w ⟨_, h, hq⟩
  have h : es = [] := h
  subst h; exact hq

/-- a region, in a round or behind a mark -/
theorem in_region {F : Fence} (hF : Lets F) {m id : Nat} {ds : List Deferred} (hn : l.length = n ∧ Nat.ble n 1000 = true) (hnd : noDefer ops = true) (h : WL P ops.toArray (QD ds Q) ops ⟨[], l, n, hn⟩ w) : (Code.region id ops.toArray false).wpIn F m P Q ⟨l.toArray, ds⟩ w := by
  unfold WL at h
  rw [Fr.all_nil] at h
  exact listIn hF hnd QD.to QD.outs h
theorem in_draw {F : Fence} (hF : Lets F) {m id sz : Nat} {ds : List Deferred} {Lb : List (Nat × Obj)} (hz : l.length = sz ∧ Nat.ble sz 1000 = true) (hm : P.follows .mixedOrders = true) (hnd : noDefer ops = true) (H : St w0 X w L) (_ : St w0 X w Lb) (hn : ops.length = n)
    (h : ∀ w, St w0 X w L → RG P ops (QD ds Q) (fun W => St w0 X W Lb) n (List.replicate n false) ⟨[], l, sz, hz⟩ w) : (Code.region id ops.toArray true).wpIn F m P Q ⟨l.toArray, ds⟩ w := by
  refine drawIn hF hm hnd (S := fun W => St w0 X W Lb) QD.to QD.outs ?_
  have h' := h { w with drawn := w.drawn + 1 } (H.drew (Nat.le_succ _))
  subst hn
  unfold RG at h'
  rw [Fr.all_nil] at h'
  simpa using h'
theorem in_nil {opsA : Array Oper} {F : Fr} {ds : List Deferred} (hl : F.all = l') (h : Q .normal ⟨l'.toArray, ds⟩ w) : WL P opsA (QD ds Q) [] F w := by subst hl; unfold WL; exact ⟨nofun, rfl, h⟩
theorem in_done {F : Fr} {ds : List Deferred} {listed : List Bool} (hr : Ready ops listed = []) (hl : F.all = l') (h : Q .normal ⟨l'.toArray, ds⟩ w) {S : World → Prop} : RG P ops (QD ds Q) S n listed F w := d_done hr hl ⟨nofun, rfl, h⟩

/-! behind a mark -/
theorem cD_region {id : Nat} {ds : List Deferred} (hn : l.length = n ∧ Nat.ble n 1000 = true) (hnd : noDefer ops = true) (h : WL P ops.toArray (QD ds Q) ops ⟨[], l, n, hn⟩ w) : (Code.region id ops.toArray false).wp P Q ⟨l.toArray, ds⟩ w :=
  wpIn_wide.1 (in_region (m := 0) lets_wide hn hnd h)
theorem cD_seq {x y : Code} {ds : List Deferred} (h : x.wp P (Exit.then (y.wp P Q) Q) ⟨l.toArray, ds⟩ w) : (Code.seq x y).wp P Q ⟨l.toArray, ds⟩ w := wp_seq h
theorem cD_if {c : Operand} {x y : Code} {ds : List Deferred} {p : Prop} [Decidable p] (hc : evj l c = some (.bool (decide p))) (ht : p → x.wp P Q ⟨l.toArray, ds⟩ w) (hf : ¬ p → y.wp P Q ⟨l.toArray, ds⟩ w) : (Code.cond c x y).wp P Q ⟨l.toArray, ds⟩ w := by
  have e : Act.eval ⟨l.toArray, ds⟩ c = .bool (decide p) := evj_of hc
  exact wp_cond_split (t := decide p) e (fun h => ht (of_decide_eq_true h)) (fun h => hf (of_decide_eq_false h))
theorem cD_ifb {c : Operand} {x y : Code} {ds : List Deferred} {b : Bool} (hc : evj l c = some (.bool b)) (ht : b = true → x.wp P Q ⟨l.toArray, ds⟩ w) (hf : b = false → y.wp P Q ⟨l.toArray, ds⟩ w) : (Code.cond c x y).wp P Q ⟨l.toArray, ds⟩ w := by
  have e : Act.eval ⟨l.toArray, ds⟩ c = .bool b := evj_of hc
  exact wp_cond_split (t := b) e ht hf

/-! a function with a mark -/
theorem cM_enter {f : FuncId} {fn : Func} {c : Code} {args : List Value} {R : Ending → World → Prop} {n : Nat} (hf : P.funcs[f]? = some fn) (hn : fn.ntmps = n) (hb : fn.body = some c)
    (hl : args ++ List.replicate (n - args.length) undef = l) (h : c.wp P (bodyPostM Fence.wide 0 P fn R) ⟨l.toArray, []⟩ w) : Calls P f args.toArray w R := by
  refine callsIn_wide.1 (callsIn_of_wp_marks (n := 0) hf hb trivial (wpIn_wide.2 ?_))
  subst hl hn
  have e : args.toArray ++ Array.replicate (fn.ntmps - args.toArray.size) undef = (args ++ List.replicate (fn.ntmps - args.length) undef).toArray := by simp
  rw [e]
  exact h
theorem eM_ret {fn : Func} {R : Ending → World → Prop} {v : Value} (hr : (results fn l.toArray).run P w = .ok v w) (h : R (.returned v) w) : bodyPostM Fence.wide 0 P fn R .ret ⟨l.toArray, []⟩ w := ⟨v, hr, h⟩

/-- block number k becomes another object -/
theorem St.putObj (H : St w0 X w L) (k : Nat) {b : Nat} {o : Obj} (o' : Obj) (hk : L[k]? = some (b, o)) : St w0 X (w.putObj b o') (L.set k (b, o')) :=
  H.put k hk rfl rfl rfl rfl World.putObj_size (World.putObj_heap_same (lt_of_heap (H.at k hk))) (fun _ hc => World.putObj_heap_other hc)

def mark1 (b : Nat) : List Deferred := [{ target := .collected b, args := #[] }]

theorem eM_retD {fn : Func} {R : Ending → World → Prop} {v : Value} {b k : Nat} (H : St w0 X w L) (hk : L[k]? = some (b, .deferred (some [])))
    (hr : ∀ w', St w0 X w' (L.set k (b, .deferred none)) → (results fn l.toArray).run P w' = .ok v w' ∧ R (.returned v) w') : bodyPostM Fence.wide 0 P fn R .ret ⟨l.toArray, mark1 b⟩ w := by
  have hb := H.at k hk
  obtain ⟨h1, h2⟩ := hr _ (H.putObj k (.deferred none) hk)
  refine ⟨by simp, .inl ⟨b, _, rfl, run_takeDeferred hb, ?_⟩⟩
  exact ⟨v, h1, h2⟩

/-! ### The statement -/
/-- the loop's record -/
def LR (st : LoopState) (fn : FuncId) (l : List Value) (ps : List Tmp) (assign body : Code) (D : Nat) : Obj :=
  .loop { state := st, pending := none, fn, tmps := l.toArray, params := ps.toArray, assign, body, defers := D }

/-- **'for .. := range g { .. }', its body never leaving it.** -/
theorem c_range {g : Operand} {ps : List Tmp} {assign body : Code} {gf : FuncId} {lb : List Value} (H : St w0 X w L) (hg : evj l g = some (.func (.func gf) #[] lb.toArray)) (he : Ent P gf)
    (h : ∀ fn w' b, St w0 X w' ((b + 1, LR .ready fn l ps assign body b) :: (b, .deferred (some [])) :: L) →
      Calls P gf (.func (.yield (b + 1)) #[] #[] :: lb).toArray w' fun e w'' => ∃ v, e = .returned v ∧ ∃ L', St w0 X w'' ((b + 1, LR .ready fn l ps assign body b) :: (b, .deferred (some [])) :: L') ∧
        (∀ w3, St w0 X w3 ((b + 1, LR .exhausted fn l ps assign body b) :: (b, .deferred (some [])) :: L') → Q .normal ⟨l.toArray, mark1 b⟩ w3)) :
    (Code.rangeFunc g ps.toArray assign body).wp P Q ⟨l.toArray, []⟩ w := by
  refine (wpIn_wide (n := 0)).1 (wpIn_rangeFunc ?_)
  intro fn _
  have hev : Act.eval ⟨l.toArray, []⟩ g = .func (.func gf) #[] lb.toArray := evj_of hg
  have H2 : St w0 X ((w.alloc (.deferred (some []))).alloc (LR .ready fn l ps assign body w.heap.size)) ((w.heap.size + 1, LR .ready fn l ps assign body w.heap.size) :: (w.heap.size, .deferred (some [])) :: L) := by
    have H1 := (H.alloc (.deferred (some []))).alloc (LR .ready fn l ps assign body w.heap.size)
    have hsz : (w.heap.push (Obj.deferred (some []))).size = w.heap.size + 1 := by simp
    simp only [hsz] at H1
    exact H1
  have hent : (Instr.enterLoop fn l.toArray ps.toArray assign body none).run P w = .ok (w.heap.size + 1, mark1 w.heap.size) ((w.alloc (.deferred (some []))).alloc (LR .ready fn l ps assign body w.heap.size)) := run_enterLoop_outer _ _ _ _ _
  generalize ((w.alloc (.deferred (some []))).alloc (LR .ready fn l ps assign body w.heap.size)) = W1 at H2 hent
  refine ⟨w.heap.size + 1, mark1 w.heap.size, W1, { target := .fn (.func gf) lb.toArray, args := #[.func (.yield (w.heap.size + 1)) #[] #[]] }, W1, gf,
    (.func (.yield (w.heap.size + 1)) #[] #[] :: lb).toArray, W1, hent, ?_, fun _ _ => trivial, ?_, fun h => by simp [Fence.wide] at h, ?_⟩
  · simp only [resolve, hev]
    simp [go_sem]
  · have e2 := he (#[.func (.yield (w.heap.size + 1)) #[] #[]] ++ lb.toArray) W1
    have e3 : (#[.func (.yield (w.heap.size + 1)) #[] #[]] ++ lb.toArray : Array Value) = (.func (.yield (w.heap.size + 1)) #[] #[] :: lb).toArray := by simp
    rw [e3] at e2
    simp [invoke, go_sem]
    simpa using e2
  · refine callsIn_wide.2 ?_
    refine (h fn _ w.heap.size H2).mono fun e w'' hp => ?_
    obtain ⟨v, rfl, L', HC, hq⟩ := hp
    have hl := HC.at 0 rfl
    refine ⟨none, _, run_endLoop hl (by simp), ?_⟩
    exact hq _ (HC.putObj 0 (LR .exhausted fn l ps assign body w.heap.size) rfl)

/-- **One round.** -/
theorem c_round {r : Nat} {fn : FuncId} {ps : List Tmp} {assign body : Code} {D : Nat} {args : List Value} {M : List (Nat × Obj) → World → Prop} (H : St w0 X w ((r, LR .ready fn l ps assign body D) :: L)) (ha : args.length = ps.length)
    (hl1 : ((ps.zip args).foldl (fun t (p : Tmp × Value) => t.set p.1 p.2) l) = l1)
    (has : ∀ K : Act → World → Prop, K ⟨l2.toArray, []⟩ w → assign.wpIn (Fence.wide.inRound r) 0 P (Exit.then K (fun _ _ _ => False)) ⟨l1.toArray, []⟩ w)
    (hb : ∀ w1, St w0 X w1 ((r, LR .busy fn l ps assign body D) :: L) → body.wpIn (Fence.wide.inRound r) 0 P (fun e _ w2 => e = .normal ∧ ∃ L', St w0 X w2 ((r, LR .busy fn l ps assign body D) :: L') ∧
      (∀ w3, St w0 X w3 ((r, LR .ready fn l ps assign body D) :: L') → M L' w3)) ⟨l2.toArray, []⟩ w1) :
    ∃ fn' tmps assign' body', (Instr.yield r args.toArray).run P w = .ok (.round r fn' tmps assign' body') w ∧
      RoundIn Fence.wide 0 P r fn' tmps assign' body' w fun e w' => e = .returned (.bool true) ∧ ∃ L', St w0 X w' ((r, LR .ready fn l ps assign body D) :: L') ∧ M L' w' := by
  have hr := H.at 0 rfl
  have hf : ((ps.toArray.zip args.toArray).foldl (fun tmps (t, a) => tmps.setIfInBounds t a) l.toArray) = l1.toArray := by
    subst hl1
    have : ∀ (zs : List (Tmp × Value)) (l : List Value), zs.toArray.foldl (fun tmps (p : Tmp × Value) => tmps.setIfInBounds p.1 p.2) l.toArray = (zs.foldl (fun t (p : Tmp × Value) => t.set p.1 p.2) l).toArray := by
      intro zs
      induction zs with
      | nil => intro l; rfl
      | cons z zs ih => intro l; have := ih (l.set z.1 z.2); simpa using this
    have h2 := this (ps.zip args) l
    rw [← h2]
    simp
  refine ⟨fn, _, assign, body, run_yield hr (by simp [ha]), roundIn_of_wpIn trivial ?_⟩
  simp only [hf]
  refine has _ ⟨_, run_beginRound hr rfl, ?_⟩
  refine wpIn_mono (hb _ (H.putObj 0 (LR .busy fn l ps assign body D) rfl)) ?_
  rintro e a w2 ⟨rfl, L', H2, hM⟩
  have hr2 := H2.at 0 rfl
  have H3 := H2.putObj 0 (LR .ready fn l ps assign body D) rfl
  exact ⟨_, _, run_endRound none hr2, rfl, L', H3, hM _ H3⟩

/-! the iterator's call of yield -/
theorem c_yield {id : Nat} {o : Oper} {xs zs : List Oper} (hn : l.length = n ∧ Nat.ble n 1000 = true) (hnd : noDefer xs = true) (hops : ops = xs ++ o :: zs)
    (h : WL P ops.toArray (fun e a w => e = .normal ∧ (Region.wanted o (yielded ops.toArray a.tmps) = true ∧ a.defers = [] ∧ (∀ c, o.op ≠ .defer c) ∧ ∃ r fn' tmps assign' body', (execOp a.eval o).run P w = .ok (.round r fn' tmps assign' body') w ∧
      RoundIn Fence.wide 0 P r fn' tmps assign' body' w fun e w' => ∃ v, e = .returned v ∧ wpList P ops.toArray Q zs (a.put o.dst v) w')) xs ⟨[], l, n, hn⟩ w)
    (hzd : noDefer zs = true) (hout : ¬ LetsOut Q) : (Code.region id ops.toArray false).wp P Q ⟨l.toArray, []⟩ w := by
  refine (wpIn_wide (n := 0)).1 (wpIn_region_lit ?_)
  unfold WL at h
  rw [Fr.all_nil] at h
  have h2 := list_pre (F := Fence.wide) (m := 0) (Q := Q) (ys := o :: zs) lets_wide (fun ⟨_, _, h⟩ => nomatch h.1) ?_ (fun c a w h => nomatch h.1) xs hnd _ _ h
  · rw [← hops] at h2; exact h2
  · rintro a w ⟨-, hw, _, hd, r, fn', tmps, assign', body', hrun, hR⟩
    unfold wpListIn
    rw [if_pos hw]
    refine ⟨fun _ _ => trivial, ?_⟩
    rw [Oper.semAt_eq _ _ _ hd, hrun, Oper.uponIn_round]
    refine ⟨fun h => by simp [Fence.wide] at h, hR.mono fun e w' he => ?_⟩
    obtain ⟨v, rfl, hz⟩ := he
    have h3 := list_pre (F := Fence.wide) (m := 0) (Q := Q) (ys := []) lets_wide hout (fun a w h => h) (fun c a w h => h) zs hzd _ _ hz
    rw [List.append_nil] at h3
    exact h3
theorem c_yieldK (k : Nat) {id : Nat} {o : Oper} (hn : l.length = n ∧ Nat.ble n 1000 = true) (hnd : noDefer ops = true) (hk : ops[k]? = some o)
    (h : WL P ops.toArray (fun e a w => e = .normal ∧ (Region.wanted o (yielded ops.toArray a.tmps) = true ∧ a.defers = [] ∧ (∀ c, o.op ≠ .defer c) ∧ ∃ r fn' tmps assign' body', (execOp a.eval o).run P w = .ok (.round r fn' tmps assign' body') w ∧
      RoundIn Fence.wide 0 P r fn' tmps assign' body' w fun e w' => ∃ v, e = .returned v ∧ wpList P ops.toArray Q (ops.drop (k + 1)) (a.put o.dst v) w')) (ops.take k) ⟨[], l, n, hn⟩ w)
    (hout : ¬ LetsOut Q) : (Code.region id ops.toArray false).wp P Q ⟨l.toArray, []⟩ w := by
  have hl : k < ops.length := by
    rcases Nat.lt_or_ge k ops.length with h' | h'
    · exact h'
    · rw [List.getElem?_eq_none h'] at hk; cases hk
  have e : ops = ops.take k ++ o :: ops.drop (k + 1) := by
    rw [List.getElem?_eq_getElem hl, Option.some.injEq] at hk
    subst hk; simp
  have hsub : ∀ l' : List Oper, (∀ x ∈ l', x ∈ ops) → noDefer l' = true := fun l' hl' => by
    unfold noDefer at hnd ⊢
    rw [List.all_eq_true] at hnd ⊢
    exact fun x hx => hnd x (hl' x hx)
  exact c_yield hn (hsub _ fun x hx => List.mem_of_mem_take hx) e h (hsub _ fun x hx => List.mem_of_mem_drop hx) hout
/-- on with the list behind the call of yield -/
theorem wl_of {opsA : Array Oper} {rest : List Oper} {a : Act} {F : Fr} (ha : a = ⟨F.all.toArray, []⟩) (h : WL P opsA Q rest F w) : wpList P opsA Q rest a w := by subst ha; unfold WL at h; exact h
theorem r_yield {F : Fr} {d : Option Tmp} {ty : TypeId} {pos : String} {after : Array Edge} {g : Option (Nat × Bool)} {x : Operand} {args : List Operand} {vs : List Value} {at_ : Array TypeId} {r : Nat} {R : Result Next}
    (hx : evl F x = .func (.yield r) #[] #[]) (ha : Evs F args vs) (hr : (Instr.yield r vs.toArray).run P w = R) : (execOp (Act.eval ⟨F.all.toArray, []⟩) ⟨d, .call ⟨.value x, args.toArray, at_⟩, ty, pos, after, g⟩).run P w = R := by
  subst hr
  rw [eval_evl]
  simp [execOp, resolve, hx, Deferred.ofValue, invoke, ← ha.map]
theorem r_yieldL {d : Option Tmp} {ty : TypeId} {pos : String} {after : Array Edge} {g : Option (Nat × Bool)} {x y : Operand} {v : Value} {at_ : Array TypeId} {r : Nat} {R : Result Next}
    (hx : evj l x = some (.func (.yield r) #[] #[])) (hy : evj l y = some v) (hr : (Instr.yield r #[v]).run P w = R) : (execOp (Act.eval ⟨l.toArray, []⟩) ⟨d, .call ⟨.value x, #[y], at_⟩, ty, pos, after, g⟩).run P w = R := by
  subst hr
  simp [execOp, resolve, evj_of hx, evj_of hy, Deferred.ofValue, invoke]
theorem wl_put {opsA : Array Oper} {rest : List Oper} {t : Tmp} {v : Value} (hn : l.length = n ∧ Nat.ble n 1000 = true) (h : WL P opsA Q rest (putl ⟨[], l, n, hn⟩ (some t) v) w) : wpList P opsA Q rest (Act.put ⟨l.toArray, []⟩ (some t) v) w := by
  have e := put_putl ⟨[], l, n, hn⟩ (some t) v
  rw [Fr.all_nil] at e
  rw [e]
  unfold WL at h
  exact h
theorem c_round1 {r : Nat} {fn : FuncId} {ps : List Tmp} {assign body : Code} {D : Nat} {args : List Value} {M : List (Nat × Obj) → World → Prop} (dst : Nat) (u : Value) (H : St w0 X w ((r, LR .ready fn l ps assign body D) :: L)) (ha : args.length = ps.length)
    (hl1 : ((ps.zip args).foldl (fun t (p : Tmp × Value) => t.set p.1 p.2) l) = l1) (_hl2 : l1.set dst u = l2)
    (has : ∀ K : Act → World → Prop, K ⟨l2.toArray, []⟩ w → assign.wpIn (Fence.wide.inRound r) 0 P (Exit.then K (fun _ _ _ => False)) ⟨l1.toArray, []⟩ w)
    (hb : ∀ w1, St w0 X w1 ((r, LR .busy fn l ps assign body D) :: L) → body.wpIn (Fence.wide.inRound r) 0 P (fun e _ w2 => e = .normal ∧ ∃ L', St w0 X w2 ((r, LR .busy fn l ps assign body D) :: L') ∧
      (∀ w3, St w0 X w3 ((r, LR .ready fn l ps assign body D) :: L') → M L' w3)) ⟨l2.toArray, []⟩ w1) :
    ∃ fn' tmps assign' body', (Instr.yield r args.toArray).run P w = .ok (.round r fn' tmps assign' body') w ∧
      RoundIn Fence.wide 0 P r fn' tmps assign' body' w fun e w' => e = .returned (.bool true) ∧ ∃ L', St w0 X w' ((r, LR .ready fn l ps assign body D) :: L') ∧ M L' w' :=
  c_round H ha hl1 has hb
theorem round_out {r : Nat} {args : Array Value} {x : Nat × Obj} (pre : List (Nat × Obj)) {M : List (Nat × Obj) → Prop}
    (h : ∃ fn' tmps assign' body', (Instr.yield r args).run P w = .ok (.round r fn' tmps assign' body') w ∧
      RoundIn Fence.wide 0 P r fn' tmps assign' body' w fun e w' => e = .returned (.bool true) ∧ ∃ L', St w0 X w' (x :: L') ∧ ∃ N', L' = pre ++ N' ∧ M N') :
    ∃ fn' tmps assign' body', (Instr.yield r args).run P w = .ok (.round r fn' tmps assign' body') w ∧
      RoundIn Fence.wide 0 P r fn' tmps assign' body' w fun e w' => e = .returned (.bool true) ∧ ∃ N', M N' ∧ St w0 X w' (x :: (pre ++ N')) := by
  obtain ⟨f, t, a, b, hr, hR⟩ := h
  refine ⟨f, t, a, b, hr, hR.mono ?_⟩
  rintro e w' ⟨he, L', H, N', rfl, hM⟩
  exact ⟨he, N', hM, H⟩
theorem cD_ift {c : Operand} {x y : Code} {ds : List Deferred} (hc : evj l c = some (.bool true)) (h : x.wp P Q ⟨l.toArray, ds⟩ w) : (Code.cond c x y).wp P Q ⟨l.toArray, ds⟩ w := by
  have e : Act.eval ⟨l.toArray, ds⟩ c = .bool true := evj_of hc
  exact wp_cond_true e h
theorem cD_iff {c : Operand} {x y : Code} {ds : List Deferred} (hc : evj l c = some (.bool false)) (h : y.wp P Q ⟨l.toArray, ds⟩ w) : (Code.cond c x y).wp P Q ⟨l.toArray, ds⟩ w := by
  have e : Act.eval ⟨l.toArray, ds⟩ c = .bool false := evj_of hc
  exact wp_cond_false e h
end
end Go.Er
