/-
  A range over a function whose body may leave it by a return.
-/
import Derived.Test.YtbjalofmamoffaaK6
namespace Go.Er
open Go
section
variable {P : Program} {Q : Exit → Act → World → Prop} {w0 w : World} {X : List Nat} {L : List (Nat × Obj)} {l l' l1 l2 : List Value} {n : Nat} {ops : List Oper}
/-- the loop's record, with a jump that waits -/
def LJ (st : LoopState) (j : Option Code) (fn : FuncId) (l : List Value) (ps : List Tmp) (assign body : Code) (D : Nat) : Obj :=
  .loop { state := st, pending := j, fn, tmps := l.toArray, params := ps.toArray, assign, body, defers := D }

theorem c_rangeR {g : Operand} {ps : List Tmp} {assign body : Code} {gf : FuncId} {lb : List Value} (H : St w0 X w L) (hg : evj l g = some (.func (.func gf) #[] lb.toArray)) (he : Ent P gf)
    (h : ∀ fn w' b, St w0 X w' ((b + 1, LJ .ready none fn l ps assign body b) :: (b, .deferred (some [])) :: L) →
      Calls P gf (.func (.yield (b + 1)) #[] #[] :: lb).toArray w' fun e w'' => ∃ v, e = .returned v ∧
        ((∃ L', St w0 X w'' ((b + 1, LJ .ready none fn l ps assign body b) :: (b, .deferred (some [])) :: L') ∧
          (∀ w3, St w0 X w3 ((b + 1, LJ .exhausted none fn l ps assign body b) :: (b, .deferred (some [])) :: L') → Q .normal ⟨l.toArray, mark1 b⟩ w3)) ∨
         (∃ L', St w0 X w'' ((b + 1, LJ .done (some .ret) fn l ps assign body b) :: (b, .deferred (some [])) :: L') ∧
          (∀ w3, St w0 X w3 ((b + 1, LJ .exhausted (some .ret) fn l ps assign body b) :: (b, .deferred (some [])) :: L') → Q .ret ⟨l.toArray, mark1 b⟩ w3)))) :
    (Code.rangeFunc g ps.toArray assign body).wp P Q ⟨l.toArray, []⟩ w := by
  refine (wpIn_wide (n := 0)).1 (wpIn_rangeFunc ?_)
  intro fn _
  have hev : Act.eval ⟨l.toArray, []⟩ g = .func (.func gf) #[] lb.toArray := evj_of hg
  have H2 : St w0 X ((w.alloc (.deferred (some []))).alloc (LJ .ready none fn l ps assign body w.heap.size)) ((w.heap.size + 1, LJ .ready none fn l ps assign body w.heap.size) :: (w.heap.size, .deferred (some [])) :: L) := by
    have H1 := (H.alloc (.deferred (some []))).alloc (LJ .ready none fn l ps assign body w.heap.size)
    have hsz : (w.heap.push (Obj.deferred (some []))).size = w.heap.size + 1 := by simp
    simp only [hsz] at H1
    exact H1
  have hent : (Instr.enterLoop fn l.toArray ps.toArray assign body none).run P w = .ok (w.heap.size + 1, mark1 w.heap.size) ((w.alloc (.deferred (some []))).alloc (LJ .ready none fn l ps assign body w.heap.size)) := run_enterLoop_outer _ _ _ _ _
  generalize ((w.alloc (.deferred (some []))).alloc (LJ .ready none fn l ps assign body w.heap.size)) = W1 at H2 hent
  refine ⟨w.heap.size + 1, mark1 w.heap.size, W1, { target := .fn (.func gf) lb.toArray, args := #[.func (.yield (w.heap.size + 1)) #[] #[]] }, W1, gf,
    (.func (.yield (w.heap.size + 1)) #[] #[] :: lb).toArray, W1, hent, ?_, fun _ _ => trivial, ?_, fun h => by simp [Fence.wide] at h, ?_⟩
  · simp only [resolve, hev]
    simp [go_sem]
  · have e2 := he (#[.func (.yield (w.heap.size + 1)) #[] #[]] ++ lb.toArray) W1
    have e3 : (#[.func (.yield (w.heap.size + 1)) #[] #[]] ++ lb.toArray : Array Value) = (.func (.yield (w.heap.size + 1)) #[] #[] :: lb).toArray := by simp
    rw [e3] at e2
    simp [invoke, go_sem]
    simpa using e2
  · refine callsIn_wide.2 ?_
    refine (h fn _ w.heap.size H2).mono fun e w'' hp => ?_
    obtain ⟨v, rfl, ⟨L', HC, hq⟩ | ⟨L', HC, hq⟩⟩ := hp
    · have hl := HC.at 0 rfl
      refine ⟨none, _, run_endLoop hl (by simp), ?_⟩
      exact hq _ (HC.putObj 0 (LJ .exhausted none fn l ps assign body w.heap.size) rfl)
    · have hl := HC.at 0 rfl
      refine ⟨some .ret, _, run_endLoop hl (by simp), ?_⟩
      exact wpIn_ret (hq _ (HC.putObj 0 (LJ .exhausted (some .ret) fn l ps assign body w.heap.size) rfl))

theorem c_roundR {r : Nat} {fn : FuncId} {ps : List Tmp} {assign body : Code} {D : Nat} {args : List Value} {M M2 : List (Nat × Obj) → World → Prop} (K : Act → World → Prop) (H : St w0 X w ((r, LJ .ready none fn l ps assign body D) :: L)) (ha : args.length = ps.length)
    (hl1 : ((ps.zip args).foldl (fun t (p : Tmp × Value) => t.set p.1 p.2) l) = l1)
    (has : assign.wpIn (Fence.wide.inRound r) 0 P (Exit.then K (fun _ _ _ => False)) ⟨l1.toArray, []⟩ w)
    (hb : ∀ a w1, K a w1 → ∃ L1, St w0 X w1 ((r, LJ .ready none fn l ps assign body D) :: L1) ∧ ∀ w2, St w0 X w2 ((r, LJ .busy none fn l ps assign body D) :: L1) → body.wpIn (Fence.wide.inRound r) 0 P (fun e _ w2 =>
      (e = .normal ∧ ∃ L', St w0 X w2 ((r, LJ .busy none fn l ps assign body D) :: L') ∧ (∀ w3, St w0 X w3 ((r, LJ .ready none fn l ps assign body D) :: L') → M L' w3)) ∨
      (e = .ret ∧ ∃ L', St w0 X w2 ((r, LJ .busy none fn l ps assign body D) :: L') ∧ (∀ w3, St w0 X w3 ((r, LJ .done (some .ret) fn l ps assign body D) :: L') → M2 L' w3))) a w2) :
    ∃ fn' tmps assign' body', (Instr.yield r args.toArray).run P w = .ok (.round r fn' tmps assign' body') w ∧
      RoundIn Fence.wide 0 P r fn' tmps assign' body' w fun e w' => (e = .returned (.bool true) ∧ ∃ L', St w0 X w' ((r, LJ .ready none fn l ps assign body D) :: L') ∧ M L' w') ∨
        (e = .returned (.bool false) ∧ ∃ L', St w0 X w' ((r, LJ .done (some .ret) fn l ps assign body D) :: L') ∧ M2 L' w') := by
  have hr := H.at 0 rfl
  have hf : ((ps.toArray.zip args.toArray).foldl (fun tmps (t, a) => tmps.setIfInBounds t a) l.toArray) = l1.toArray := by
    subst hl1
    have : ∀ (zs : List (Tmp × Value)) (l : List Value), zs.toArray.foldl (fun tmps (p : Tmp × Value) => tmps.setIfInBounds p.1 p.2) l.toArray = (zs.foldl (fun t (p : Tmp × Value) => t.set p.1 p.2) l).toArray := by
      intro zs
      induction zs with
      | nil => intro l; rfl
      | cons z zs ih => intro l; have := ih (l.set z.1 z.2); simpa using this
    have h2 := this (ps.zip args) l
    rw [← h2]
    simp
  refine ⟨fn, _, assign, body, run_yield hr (by simp [ha]), roundIn_of_wpIn trivial ?_⟩
  simp only [hf]
  refine wpIn_mono has ?_
  intro e a w1 hk
  cases e with
  | normal =>
    have hk : K a w1 := hk
    obtain ⟨L1, H1, hbody⟩ := hb a w1 hk
    have hr1 := H1.at 0 rfl
    refine ⟨_, run_beginRound hr1 rfl, ?_⟩
    refine wpIn_mono (hbody _ (H1.putObj 0 (LJ .busy none fn l ps assign body D) rfl)) ?_
    rintro e a w2 (⟨rfl, L', H2, hM⟩ | ⟨rfl, L', H2, hM⟩)
    · have hr2 := H2.at 0 rfl
      have H3 := H2.putObj 0 (LJ .ready none fn l ps assign body D) rfl
      exact ⟨_, _, run_endRound none hr2, .inl ⟨rfl, L', H3, hM _ H3⟩⟩
    · have hr2 := H2.at 0 rfl
      have H3 := H2.putObj 0 (LJ .done (some .ret) fn l ps assign body D) rfl
      exact ⟨_, _, run_endRound (some .ret) hr2, .inr ⟨rfl, L', H3, hM _ H3⟩⟩
  | _ => exact hk
theorem c_roundA {r : Nat} {fn : FuncId} {ps : List Tmp} {assign body : Code} {D : Nat} {args : List Value} {M M2 : List (Nat × Obj) → World → Prop} (dst : Nat) (o : Obj) (H : St w0 X w ((r, LJ .ready none fn l ps assign body D) :: L)) (ha : args.length = ps.length)
    (hl1 : ((ps.zip args).foldl (fun t (p : Tmp × Value) => t.set p.1 p.2) l) = l1)
    (has : assign.wpIn (Fence.wide.inRound r) 0 P (Exit.then (fun a w1 => ∃ b, a = ⟨(l1.set dst (.pointer (some ⟨b, 0, none⟩))).toArray, []⟩ ∧ St w0 X w1 ((b, o) :: (r, LJ .ready none fn l ps assign body D) :: L)) (fun _ _ _ => False)) ⟨l1.toArray, []⟩ w)
    (hb : ∀ b l2 w2, l1.set dst (.pointer (some ⟨b, 0, none⟩)) = l2 → St w0 X w2 ((b, o) :: (r, LJ .busy none fn l ps assign body D) :: L) → body.wpIn (Fence.wide.inRound r) 0 P (fun e _ w2 =>
      (e = .normal ∧ ∃ L', St w0 X w2 ((r, LJ .busy none fn l ps assign body D) :: L') ∧ (∀ w3, St w0 X w3 ((r, LJ .ready none fn l ps assign body D) :: L') → M L' w3)) ∨
      (e = .ret ∧ ∃ L', St w0 X w2 ((r, LJ .busy none fn l ps assign body D) :: L') ∧ (∀ w3, St w0 X w3 ((r, LJ .done (some .ret) fn l ps assign body D) :: L') → M2 L' w3))) ⟨l2.toArray, []⟩ w2) :
    ∃ fn' tmps assign' body', (Instr.yield r args.toArray).run P w = .ok (.round r fn' tmps assign' body') w ∧
      RoundIn Fence.wide 0 P r fn' tmps assign' body' w fun e w' => (e = .returned (.bool true) ∧ ∃ L', St w0 X w' ((r, LJ .ready none fn l ps assign body D) :: L') ∧ M L' w') ∨
        (e = .returned (.bool false) ∧ ∃ L', St w0 X w' ((r, LJ .done (some .ret) fn l ps assign body D) :: L') ∧ M2 L' w') := by
  refine c_roundR _ H ha hl1 has ?_
  rintro a w1 ⟨b, rfl, H1⟩
  refine ⟨_, H1.perm (.swap _ _ _), fun w2 H2 => hb b _ w2 rfl (H2.perm (.swap _ _ _))⟩
theorem in_if {F : Fence} {m : Nat} {c : Operand} {x y : Code} {p : Prop} [Decidable p] (hc : evj l c = some (.bool (decide p))) (ht : p → x.wpIn F m P Q ⟨l.toArray, []⟩ w) (hf : ¬ p → y.wpIn F m P Q ⟨l.toArray, []⟩ w) : (Code.cond c x y).wpIn F m P Q ⟨l.toArray, []⟩ w := by
  have e : Act.eval ⟨l.toArray, []⟩ c = .bool (decide p) := evj_of hc
  exact wpIn_cond_split (t := decide p) e (fun h => ht (of_decide_eq_true h)) (fun h => hf (of_decide_eq_false h))
theorem cD_draw {id sz : Nat} {ds : List Deferred} {Lb : List (Nat × Obj)} (hz : l.length = sz ∧ Nat.ble sz 1000 = true) (hm : P.follows .mixedOrders = true) (hnd : noDefer ops = true) (H : St w0 X w L) (hS : St w0 X w Lb) {k : Nat} (hk : ops.length = k)
    (h : ∀ w, St w0 X w L → RG P ops (QD ds Q) (fun w => St w0 X w Lb) k (List.replicate k false) ⟨[], l, sz, hz⟩ w) : (Code.region id ops.toArray true).wp P Q ⟨l.toArray, ds⟩ w := by
  subst hk
  exact wpIn_wide.1 (in_draw (m := 0) lets_wide hz hm hnd H hS rfl h)
theorem r_yieldL2 {d : Option Tmp} {ty : TypeId} {pos : String} {after : Array Edge} {g : Option (Nat × Bool)} {x y z : Operand} {v u : Value} {at_ : Array TypeId} {r : Nat} {R : Result Next}
    (hx : evj l x = some (.func (.yield r) #[] #[])) (hy : evj l y = some v) (hz : evj l z = some u) (hr : (Instr.yield r #[v, u]).run P w = R) : (execOp (Act.eval ⟨l.toArray, []⟩) ⟨d, .call ⟨.value x, #[y, z], at_⟩, ty, pos, after, g⟩).run P w = R := by
  subst hr
  simp [execOp, resolve, evj_of hx, evj_of hy, evj_of hz, Deferred.ofValue, invoke]
end
end Go.Er
