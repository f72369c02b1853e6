import Derived.WalkKit
import Derived.ProofKit
import Derived.OpenShut
import Derived.Carry
import Derived.Deep.Slices
import Derived.Deep.DeepHandedRow
import Derived.Lib.LaidTab
import Derived.Test.YtobfnieebiakeaaPVx1
/-
  The laws' two ends: arguments are opened into data, and what a quiet call leaves is told.
-/
namespace Go.Er
open Go Go.ChangeShapes Go.WideShapes Go.RowKit Go.Deep

instance : Inhabited Held := ⟨Held.zero⟩
theorem one_td {α : Type} (l : List α) (i : Nat) (d : α) (h : i < l.length) : (l.drop i).take 1 = [l.getD i d] := by
  rw [List.drop_eq_getElem_cons h, List.take_succ_cons, List.take_zero, List.getD_eq_getElem?_getD, List.getElem?_eq_getElem h]; rfl

/-! ### A row out of its cells -/
/-! ### Down -/
section
variable {H : Type} {enc : TypeId × Value → H} {P : Program} {w : World} {base : Nat} {spare : Nat → Bool} {held : Bool} {fuel : Nat} {cs : List Value} {x : DataW H × List MemPlace} {t e : TypeId}

theorem u8_of {n : Int} (h : (Lit.int .u8 n).wf = true) : ∃ u : UInt8, n = (u.toNat : Int) := by
  simp only [Lit.wf, Bool.and_eq_true, decide_eq_true_eq] at h
  have h1 : (0 : Int) ≤ n := by simpa [IntKind.min, IntKind.signed] using h.1
  have h2 : n ≤ 255 := by simpa [IntKind.max, IntKind.signed, IntKind.bits] using h.2
  exact ⟨UInt8.ofNat n.toNat, by rw [UInt8.toNat_ofNat']; omega⟩

/-- bytes, cell by cell -/
theorem bytes_of {n : Nat} {vs : List Value} (hn : vs.length = n) (h : ∀ i, i < n → ∃ u : UInt8, vs[i]? = some (.int .u8 (u.toNat : Int))) : ∃ k : By n, vs = kC k := by
  obtain ⟨f, hf⟩ := choose_lt (α := UInt8) (p := fun i u => vs[i]? = some (.int .u8 (u.toNat : Int))) h
  obtain ⟨k, hk⟩ : ∃ k : By n, k.1 = (List.range n).map f := ⟨⟨(List.range n).map f, by simp⟩, rfl⟩
  refine ⟨k, ?_⟩
  have e : kC k = bC ((List.range n).map f) := by unfold kC; rw [hk]
  rw [e]
  apply List.ext_getElem?
  intro i
  by_cases hi : i < n
  · rw [hf i hi]; simp [bC, hi]
  · rw [List.getElem?_eq_none (by omega), List.getElem?_eq_none (by rw [bC_length]; simp; omega)]

theorem trod_bytes {n : Nat} (ht : P.underlying t = some (.array n e)) (he : P.underlying e = some (.int .u8)) (hc : P.cellsOf e = 1) (hct : P.cellsOf t = n) (h : DataW.trod enc P w base spare held fuel t cs = some x) : ∃ k : By n, cs = kC k := by
  obtain ⟨xs, m, _,_, hl, hxl, hx⟩ := DataW.trod_array ht h
  rw [hct] at hl
  refine bytes_of hl fun i hi => ?_
  have h1 := hx i hi
  rw [hc, Nat.mul_one, one_td cs i undef (by omega), List.getElem?_eq_getElem (by omega)] at h1
  obtain ⟨z, hz, _, hw⟩ := DataW.trod_int he h1
  obtain ⟨u, rfl⟩ := u8_of hw
  refine ⟨u, ?_⟩
  simp only [List.cons.injEq, and_true] at hz
  rw [← hz]
  simp [List.getD_eq_getElem?_getD, List.getElem?_eq_getElem (show i < cs.length by omega)]

/-! ### Up -/
theorem trodAll_stay (hl : laidOutB P = true) {W W' : World} {sp' : Nat → Bool} (hbel : Below W.heap.size W W') : ∀ {ts : List TypeId} {vs : List Value} {ds : List (DataW H)} {ps : List MemPlace}, (ts.all fun t => P.readableRec t && decide (t < P.types.size)) = true →
    DataW.TrodAll enc P W 0 (fun _ => true) true ts vs ds ps → (∀ p ∈ ps, p.block < W.heap.size) → (∀ p ∈ ps, sp' p.block = true) → DataW.TrodAll enc P W' 0 sp' true ts vs ds ps
  | [], vs, ds, ps, _, h, _,_ => by obtain ⟨rfl, rfl, rfl⟩ := trodAll_nil h; exact trodAll_mk0
  | t :: ts, vs, ds, ps, hr, h, hlt, hs => by
    obtain ⟨v, vs', d, ds', p, q, rfl, rfl, rfl, h1, h2⟩ := trodAll_cons h
    simp only [List.all_cons, Bool.and_eq_true, decide_eq_true_eq] at hr
    exact trodAll_cons_mk (WideElems.Trod_stays hl hr.1.1 hr.1.2 h1 (fun x hx => hbel.same (hlt x (List.mem_append_left _ hx))) (fun x hx => hs x (List.mem_append_left _ hx)))
      (trodAll_stay hl hbel hr.2 h2 (fun x hx => hlt x (List.mem_append_right _ hx)) (fun x hx => hs x (List.mem_append_right _ hx)))

/-- behind a quiet call that tells true -/
theorem law_post {f : Func} {s : ChangeSpec} {apart fresh handsOn again : Bool} {W W' : World} {args : Array Value} {ds gs : List (DataW H)} {before : List MemPlace} {tb : TypeId}
    (hl : laidOutB P = true) (hpr : (f.params.toList.all fun t => P.readableRec t && decide (t < P.types.size)) = true) (hrt : f.resultTypes = #[tb]) (htb : P.underlying tb = some .bool) (hv0 : s.vars = [])
    (hW : DataW.Whole enc P f.params.toList s.vars apart W args.toList ds gs before) (hres : (s.fn H (ds ++ gs)).results = [.lit (.bool true)]) (hargs : (s.fn H (ds ++ gs)).args = ds) (hvars : (s.fn H (ds ++ gs)).vars = [])
    (hb : Below W.heap.size W W') : s.post enc P f apart fresh handsOn again W args (.bool true) W' := by
  have hlt : ∀ p ∈ before, p.block < W.heap.size := hW.lt
  have hW0 := hW
  obtain ⟨p, q, hA, hV, he, hz, hnd⟩ := hW
  rw [hv0] at hV
  obtain ⟨rfl, rfl⟩ := trodVars_none hV
  rw [List.append_nil] at he
  subst he
  have hR : ∀ (b : Nat) (sp : Nat → Bool) (hd : Bool), DataW.TrodAll enc P W' b sp hd f.resultTypes.toList ((Value.bool true).resultList f.resultTypes.size) (s.fn H (ds ++ [])).results [] := by
    intro b sp hd
    rw [hres, hrt]
    exact trodAll_mk1 (shut_bool htb _)
  have hA' : ∀ sp : Nat → Bool, (∀ x ∈ before, sp x.block = true) → DataW.TrodAll enc P W' 0 sp true f.params.toList args.toList (s.fn H (ds ++ [])).args before := by
    intro sp hsp
    rw [hargs]
    exact trodAll_stay hl hb hpr hA hlt hsp
  have hV' : ∀ sp : Nat → Bool, DataW.TrodVars enc P W' sp s.vars (s.fn H (ds ++ [])).vars [] := by
    intro sp
    rw [hvars, hv0]
    exact rfl
  refine ⟨ds, [], before, [], before, [], hW0, hR _ _ _, hA' _ (fun x hx => by simpa using hlt x hx), hV' _, hb.frame _, fun _ => ⟨ok_one hrt rfl (okWide_bool_mk htb _), _,_, ([] ++ before) ++ [], ⟨[] ++ before, [], trodAll_append (hA' _ fun _ _ => rfl) (hR _ _ _), hV' _, rfl, ?_, ?_⟩, ?_⟩⟩
  · intro b off hp
    simp only [List.nil_append, List.append_nil] at hp
    rw [hb.frozen (hlt _ hp)]
    exact hz b off hp
  · intro ha
    simpa using hnd ha
  · intro x hx _
    simpa using hx
end
end Go.Er


/-
  Further arguments opened: a key, a row of whole numbers.
-/
namespace Go.Er
open Go Go.ChangeShapes Go.WideShapes Go.RowKit Go.Deep
section
variable {H : Type} {enc : TypeId × Value → H} {P : Program} {w : World} {base : Nat} {spare : Nat → Bool} {held : Bool} {t e : TypeId}

/-- an argument that is an array of bytes -/
theorem open_key {n : Nat} {r : Reach} {b0 : Nat} {v : Value} {d : DataW H} {ps : List MemPlace} (ht : P.underlying t = some (.array n e)) (he : P.underlying e = some (.int .u8)) (hc : P.cellsOf e = 1) (hct : P.cellsOf t = n) (hval : Value.okWide P w r b0 t v) (h : DataW.Trod enc P w base spare held t v d ps) :
    ∃ k : By n, v = .agg (kC k).toArray := by
  unfold Value.okWide at hval
  rw [ht] at hval
  obtain ⟨cs, rfl, _⟩ := hval
  obtain ⟨fuel, hf⟩ := h
  obtain ⟨k, hk⟩ := trod_bytes ht he hc hct hf
  refine ⟨k, congrArg Value.agg ?_⟩
  rw [← hk]
  rfl
end
theorem u8_rng {n : Int} (h : (Lit.int .u8 n).wf = true) : 0 ≤ n ∧ n < 256 := by
  obtain ⟨u, rfl⟩ := u8_of h
  have := u.toNat_lt
  omega
end Go.Er

