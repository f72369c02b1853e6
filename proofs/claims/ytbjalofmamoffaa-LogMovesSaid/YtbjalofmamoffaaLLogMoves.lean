/-
  The law erewhile/erewhilelaw15.LogMoves holds of the program for every input: it returns true, and its arguments read as they did.
  Its condition: that the call is one that the row speaks of.
-/
import Derived.Test.YtbjalofmamoffaaRows
import Derived.Test.YtbjalofmamoffaaPC1
import Derived.Test.YtbjalofmamoffaaPZ3
namespace Go.Proofs.Ytbjalofmamoffaa.lawLogMoves
open Go Go.Er Go.ChangeShapes Go.WideShapes Go.RowKit
theorem own : ownKnob Try.prog.godebug = none := by kernel_rfl
theorem laidOut : laidOutB Try.prog = true := by kernel_rfl
theorem doD44 : DoD Try.prog 44 := ⟨by kernel_rfl, #[⟨ "Kind", 5, 0, false, "", "", 0⟩, ⟨ "N", 5, 1, false, "", "", 1⟩, ⟨ "Body", 40, 2, false, "", "", 8⟩], ⟨ "Kind", 5, 0, false, "", "", 0⟩, ⟨ "N", 5, 1, false, "", "", 1⟩, ⟨ "Body", 40, 2, false, "", "", 8⟩, 5, by kernel_rfl, rfl, rfl, rfl, rfl, by kernel_rfl, by kernel_rfl, by kernel_rfl, by kernel_rfl, by kernel_rfl, by kernel_rfl, by kernel_rfl, by kernel_rfl⟩

noncomputable def laidWorld (os : Os) : World := World.holding Try.prog os ⟨#[], #[], []⟩
theorem laid_met (os : Os) : laidMet Try.prog Rows.logMovesRow.laid ((laidWorld os).forCall (fun _ _ => 0) ⟨#[], #[.int .u8 0, .slice none 0 0, .slice none 0 0], []⟩).memory :=
  laidMet_of_run' 80 (by kernel_rfl) (by kernel_rfl)

set_option maxRecDepth 100000 in
theorem contract (H : Type) (enc : TypeId × Value → H) (W : World) (base : Nat) (args : Array Value) (ds gs : List (DataW H)) (before : List MemPlace)
    (hval : ∀ (j : Nat) t v, Try.f5.params[j]? = some t → args[j]? = some v → Value.okWide Try.prog W .any base t v)
    (hW : DataW.Whole enc Try.prog Try.f5.params.toList Rows.logMovesSpec.vars false W args.toList ds gs before) :
    Calls Try.prog 5 args W fun e W' => ∃ v, e = .returned v ∧ Rows.logMovesSpec.post enc Try.prog Try.f5 false true false false W args v W' := by
  have hW' := hW
  obtain ⟨p, q, hA0, hV, rfl, hfz, hnd⟩ := hW
  have hA : DataW.TrodAll enc Try.prog W 0 (fun _ => true) true Try.f5.params.toList args.toList ds p := hA0
  rw [Try.params5] at hA hval
  obtain ⟨v0, vs0, d0, ds0, p0, q0, hargs, rfl, rfl, h0, r0⟩ := trodAll_cons hA
  obtain ⟨v1, vs1, d1, ds1, p1, q1, rfl, rfl, rfl, h1, r1⟩ := trodAll_cons r0
  obtain ⟨v2, vs2, d2, ds2, p2, q2, rfl, rfl, rfl, h2, r2⟩ := trodAll_cons r1
  obtain ⟨rfl, rfl, rfl⟩ := trodAll_nil r2
  obtain rfl : args = #[v0, v1, v2] := by cases args; simp_all
  obtain ⟨rfl, rfl⟩ := trodVars_none hV
  obtain ⟨z, rfl, _,_, hwz⟩ := open_int Try.underlying5 (hval 0 5 _ rfl rfl) h0
  obtain ⟨f, rfl, hcapf, hmaxf, hrf, hbf⟩ := open_bss Try.underlying60 Try.underlying40 Try.underlying5 (by kernel_rfl) (by kernel_rfl) (hval 1 60 _ rfl rfl) h1
  obtain ⟨am, capm, m, rfl, hcapm, hmaxm, hrm⟩ := open_bytesArg Try.underlying40 Try.underlying5 (by kernel_rfl) (hval 2 40 _ rfl rfl) h2
  refine (moves_law z (u8_rng hwz).1 (u8_rng hwz).2 f.a f.l f.c (by have h := Nat.le_trans hcapf hmaxf; unfold Go.maxLen at h; omega) am m capm (by have h := Nat.le_trans hcapm hmaxm; unfold Go.maxLen at h; omega) W hrf hbf hrm).mono fun e W' ⟨v, he, hv, hS⟩ => ?_
  subst hv
  exact ⟨_, he, law_post laidOut (by kernel_rfl) rfl Try.underlying4 rfl hW' rfl rfl rfl hS.below⟩

theorem reads (os : Os) {H : Type} (enc : TypeId × Value → H) : ∃ places, DataW.whole enc Try.prog ((laidWorld os).forCall (fun _ _ => 0) ⟨#[], #[.int .u8 0, .slice none 0 0, .slice none 0 0], []⟩).memory Try.f5.params.toList Rows.logMovesSpec.vars false (#[.int .u8 0, .slice none 0 0, .slice none 0 0] : Array Value).toList 80 = some ([.lit (.int .u8 0), .nil, .nil], [], places) :=
  ⟨[], by kernel_rfl⟩
set_option maxRecDepth 100000 in
theorem lifted (os : Os) (started : os.Started) (H : Type) (enc : TypeId × Value → H) (F : Stop.Interp) :
    ReturnsInHanded {} Try.checked os 5 .any ((OpenSpec.ofChange Rows.logMovesSpec).preRow enc Try.prog Try.f5 Rows.logMovesRow.domain false Rows.logMovesRow.laid) (((OpenSpec.ofChange Rows.logMovesSpec).at F).post enc Try.prog Try.f5 false true false false) := by
  obtain ⟨places, hx⟩ := reads os enc
  refine returnsInHanded_of_row (C := Try.checked) (s := OpenSpec.ofChange Rows.logMovesSpec) own started (by kernel_rfl) Try.func5
    (witness_row_at (enc := enc) (C := Try.checked) false (laidWorld os) #[.int .u8 0, .slice none 0 0, .slice none 0 0] rfl (by kernel_rfl) (by kernel_rfl) (by kernel_rfl)
      (OpenSpec.preRow_of_cond 80 hx (by kernel_rfl) (fun k hk => by cases hk) (by kernel_rfl) (laid_met os))) ?_
  intro W base args ds gs before hval hW _ _ _ hL _ _
  exact contract H enc W base args ds gs before hval hW
theorem said : Rows.LogMovesSaid :=
  OpenClaim.holds_of_cond 5 Try.f5 rfl rfl rfl rfl rfl rfl rfl ⟨rfl, rfl, rfl, rfl, rfl⟩ rfl rfl rfl rfl rfl (by kernel_rfl) Try.func5 (by kernel_rfl)
    (of_decide_eq_true (by kernel_rfl)) (by unfold Func.isWrapper; first | (rw [if_pos (by decide +kernel)]; kernel_rfl) | (rw [if_neg (by decide +kernel)]; exact ⟨rfl, rfl⟩))
    (fun os started H enc _ F => by rw [OpenClaim.pre_eq_preRow]; exact lifted os started H enc F)
end Go.Proofs.Ytbjalofmamoffaa.lawLogMoves

