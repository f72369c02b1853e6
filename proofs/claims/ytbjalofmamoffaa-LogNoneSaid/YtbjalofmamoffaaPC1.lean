import Derived.WalkKit
import Derived.ProofKit
import Derived.OpenShut
import Derived.Carry
import Derived.Deep.Slices
import Derived.Deep.DeepHandedRow
import Derived.Lib.LaidTab
import Derived.Test.YtbjalofmamoffaaPV1
import Derived.Test.YtbjalofmamoffaaPV2
/-
  The laws' two ends: arguments are opened into data, and what a quiet call leaves is told.
-/
namespace Go.Er
open Go Go.ChangeShapes Go.WideShapes Go.RowKit Go.Deep

instance : Inhabited Held := ⟨Held.zero⟩
theorem one_td {α : Type} (l : List α) (i : Nat) (d : α) (h : i < l.length) : (l.drop i).take 1 = [l.getD i d] := by
  rw [List.drop_eq_getElem_cons h, List.take_succ_cons, List.take_zero, List.getD_eq_getElem?_getD, List.getElem?_eq_getElem h]; rfl

/-! ### A row out of its cells -/
/-! ### Down -/
section
variable {H : Type} {enc : TypeId × Value → H} {P : Program} {w : World} {base : Nat} {spare : Nat → Bool} {held : Bool} {fuel : Nat} {cs : List Value} {x : DataW H × List MemPlace} {t e : TypeId}

theorem u8_of {n : Int} (h : (Lit.int .u8 n).wf = true) : ∃ u : UInt8, n = (u.toNat : Int) := by
  simp only [Lit.wf, Bool.and_eq_true, decide_eq_true_eq] at h
  have h1 : (0 : Int) ≤ n := by simpa [IntKind.min, IntKind.signed] using h.1
  have h2 : n ≤ 255 := by simpa [IntKind.max, IntKind.signed, IntKind.bits] using h.2
  exact ⟨UInt8.ofNat n.toNat, by rw [UInt8.toNat_ofNat']; omega⟩

/-! ### Up -/
theorem trodAll_stay (hl : laidOutB P = true) {W W' : World} {sp' : Nat → Bool} (hbel : Below W.heap.size W W') : ∀ {ts : List TypeId} {vs : List Value} {ds : List (DataW H)} {ps : List MemPlace}, (ts.all fun t => P.readableRec t && decide (t < P.types.size)) = true →
    DataW.TrodAll enc P W 0 (fun _ => true) true ts vs ds ps → (∀ p ∈ ps, p.block < W.heap.size) → (∀ p ∈ ps, sp' p.block = true) → DataW.TrodAll enc P W' 0 sp' true ts vs ds ps
  | [], vs, ds, ps, _, h, _,_ => by obtain ⟨rfl, rfl, rfl⟩ := trodAll_nil h; exact trodAll_mk0
  | t :: ts, vs, ds, ps, hr, h, hlt, hs => by
    obtain ⟨v, vs', d, ds', p, q, rfl, rfl, rfl, h1, h2⟩ := trodAll_cons h
    simp only [List.all_cons, Bool.and_eq_true, decide_eq_true_eq] at hr
    exact trodAll_cons_mk (WideElems.Trod_stays hl hr.1.1 hr.1.2 h1 (fun x hx => hbel.same (hlt x (List.mem_append_left _ hx))) (fun x hx => hs x (List.mem_append_left _ hx)))
      (trodAll_stay hl hbel hr.2 h2 (fun x hx => hlt x (List.mem_append_right _ hx)) (fun x hx => hs x (List.mem_append_right _ hx)))

/-- behind a quiet call that tells true -/
theorem law_post {f : Func} {s : ChangeSpec} {apart fresh handsOn again : Bool} {W W' : World} {args : Array Value} {ds gs : List (DataW H)} {before : List MemPlace} {tb : TypeId}
    (hl : laidOutB P = true) (hpr : (f.params.toList.all fun t => P.readableRec t && decide (t < P.types.size)) = true) (hrt : f.resultTypes = #[tb]) (htb : P.underlying tb = some .bool) (hv0 : s.vars = [])
    (hW : DataW.Whole enc P f.params.toList s.vars apart W args.toList ds gs before) (hres : (s.fn H (ds ++ gs)).results = [.lit (.bool true)]) (hargs : (s.fn H (ds ++ gs)).args = ds) (hvars : (s.fn H (ds ++ gs)).vars = [])
    (hb : Below W.heap.size W W') : s.post enc P f apart fresh handsOn again W args (.bool true) W' := by
  have hlt : ∀ p ∈ before, p.block < W.heap.size := hW.lt
  have hW0 := hW
  obtain ⟨p, q, hA, hV, he, hz, hnd⟩ := hW
  rw [hv0] at hV
  obtain ⟨rfl, rfl⟩ := trodVars_none hV
  rw [List.append_nil] at he
  subst he
  have hR : ∀ (b : Nat) (sp : Nat → Bool) (hd : Bool), DataW.TrodAll enc P W' b sp hd f.resultTypes.toList ((Value.bool true).resultList f.resultTypes.size) (s.fn H (ds ++ [])).results [] := by
    intro b sp hd
    rw [hres, hrt]
    exact trodAll_mk1 (shut_bool htb _)
  have hA' : ∀ sp : Nat → Bool, (∀ x ∈ before, sp x.block = true) → DataW.TrodAll enc P W' 0 sp true f.params.toList args.toList (s.fn H (ds ++ [])).args before := by
    intro sp hsp
    rw [hargs]
    exact trodAll_stay hl hb hpr hA hlt hsp
  have hV' : ∀ sp : Nat → Bool, DataW.TrodVars enc P W' sp s.vars (s.fn H (ds ++ [])).vars [] := by
    intro sp
    rw [hvars, hv0]
    exact rfl
  refine ⟨ds, [], before, [], before, [], hW0, hR _ _ _, hA' _ (fun x hx => by simpa using hlt x hx), hV' _, hb.frame _, fun _ => ⟨ok_one hrt rfl (okWide_bool_mk htb _), _,_, ([] ++ before) ++ [], ⟨[] ++ before, [], trodAll_append (hA' _ fun _ _ => rfl) (hR _ _ _), hV' _, rfl, ?_, ?_⟩, ?_⟩⟩
  · intro b off hp
    simp only [List.nil_append, List.append_nil] at hp
    rw [hb.frozen (hlt _ hp)]
    exact hz b off hp
  · intro ha
    simpa using hnd ha
  · intro x hx _
    simpa using hx
end
end Go.Er


/-
  Further arguments opened: a key, a row of whole numbers.
-/
namespace Go.Er
open Go Go.ChangeShapes Go.WideShapes Go.RowKit Go.Deep
section
variable {H : Type} {enc : TypeId × Value → H} {P : Program} {w : World} {base : Nat} {spare : Nat → Bool} {held : Bool} {t e : TypeId}

end
theorem u8_rng {n : Int} (h : (Lit.int .u8 n).wf = true) : 0 ≤ n ∧ n < 256 := by
  obtain ⟨u, rfl⟩ := u8_of h
  have := u.toNat_lt
  omega
end Go.Er


/-
  Further arguments opened: rows of structs, of bytes.
-/
namespace Go.Er
open Go Go.ChangeShapes Go.WideShapes Go.RowKit Go.Deep
section
variable {H : Type} {enc : TypeId × Value → H} {P : Program} {w : World} {base : Nat} {held : Bool} {fuel : Nat} {cs : List Value} {x : DataW H × List MemPlace} {t e : TypeId}
instance : Inhabited DoL := ⟨doZ⟩
end
end Go.Er


/-
  An argument that is a struct of two whole numbers.
-/
namespace Go.Er
open Go Go.ChangeShapes Go.WideShapes Go.RowKit Go.Deep
section
variable {H : Type} {enc : TypeId × Value → H} {P : Program} {w : World} {base : Nat} {spare : Nat → Bool} {held : Bool} {t : TypeId}
structure PrD (P : Program) (T : TypeId) : Prop where
  cells : P.cellsOf T = 2
  fs : ∃ (fs : Array Field) (f0 f1 : Field), P.underlying T = some (.struct fs) ∧ fs = #[f0, f1] ∧ f0.offset = 0 ∧ f1.offset = 1 ∧ P.cellsOf f0.type = 1 ∧ P.cellsOf f1.type = 1 ∧ P.underlying f0.type = some (.int .i64) ∧ P.underlying f1.type = some (.int .i64)
theorem open_pair {r : Reach} {b0 : Nat} {v : Value} {d : DataW H} {ps : List MemPlace} (hn : PrD P t) (hval : Value.okWide P w r b0 t v) (h : DataW.Trod enc P w base spare held t v d ps) : ∃ g z : Int, v = .agg (shC g z).toArray := by
  obtain ⟨fs, f0, f1, hu, rfl, o0, o1, c0, c1, u0, u1⟩ := hn.fs
  obtain ⟨cs, rfl, _⟩ := okWide_struct hu hval
  obtain ⟨fuel, hf⟩ := h
  obtain ⟨xs, n, _,_, hl, hxl, hx⟩ := DataW.trod_struct hu hf
  rw [hn.cells] at hl
  have hxl : xs.length = 2 := hxl
  have g0 := hx 0 f0 rfl
  have g1 := hx 1 f1 rfl
  have hl' : cs.toList.length = 2 := hl
  rw [List.getElem?_eq_getElem (by omega)] at g0 g1
  rw [o0, c0, one_td _ 0 undef (by omega)] at g0
  rw [o1, c1, one_td _ 1 undef (by omega)] at g1
  obtain ⟨p, hp, _,_⟩ := DataW.trod_int u0 g0
  obtain ⟨q, hq, _,_⟩ := DataW.trod_int u1 g1
  refine ⟨p, q, congrArg Value.agg ?_⟩
  obtain ⟨l⟩ := cs
  match l, hl' with
  | [a, b], _ =>
    have h0 : a = .int .i64 p := by simpa [Value.cells] using hp
    have h1 : b = .int .i64 q := by simpa [Value.cells] using hq
    rw [h0, h1]; rfl
end
end Go.Er

