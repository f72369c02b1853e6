/-
 The law erewhile/erewhilelaw23.ChainWrites holds of the program for every input: it returns true, and its arguments read as they did.
 Its condition: that the call is one that the row speaks of.
-/
import Derived.Test.YtobfnieebiakeaaRows
import Derived.Test.YtobfnieebiakeaaPCx1
import Derived.Test.YtobfnieebiakeaaPVx2
import Derived.Test.YtobfnieebiakeaaPE6
namespace Go.Proofs.Ytobfnieebiakeaa.lawWrites
open Go Go.Er Go.ChangeShapes Go.WideShapes Go.RowKit
theorem own : ownKnob Try.prog.godebug = none := by kernel_rfl
theorem laidOut : laidOutB Try.prog = true := by kernel_rfl
theorem cellsU8 : Try.prog.cellsOf 5 = 1 := by kernel_rfl
theorem cellsU64 : Try.prog.cellsOf 28 = 1 := by kernel_rfl
theorem cellsKey : Try.prog.cellsOf 24 = 32 := by kernel_rfl
theorem cellsBlk : Try.prog.cellsOf 44 = 32 := by kernel_rfl

noncomputable def laidWorld (os : Os) : World := World.holding Try.prog os ⟨#[], #[], []⟩
theorem laid_met (os : Os) : laidMet Try.prog Rows.chainWritesRow.laid ((laidWorld os).forCall (fun _ _ => 0) ⟨#[], #[.agg (Array.replicate 32 (.int .u8 0)), .slice none 0 0], []⟩).memory :=
 laidMet_of_run' 80 (by kernel_rfl) (by kernel_rfl)

set_option maxRecDepth 100000 in
theorem contract (H : Type) (enc : TypeId × Value → H) (W : World) (base : Nat) (args : Array Value) (ds gs : List (DataW H)) (before : List MemPlace)
  (hval : ∀ (j : Nat) t v, Try.f8.params[j]? = some t → args[j]? = some v → Value.okWide Try.prog W .any base t v)
  (hW : DataW.Whole enc Try.prog Try.f8.params.toList Rows.chainWritesSpec.vars false W args.toList ds gs before) :
  Calls Try.prog 8 args W fun e W' => ∃ v, e = .returned v ∧ Rows.chainWritesSpec.post enc Try.prog Try.f8 false true false false W args v W' := by
 have hW' := hW
 obtain ⟨p, q, hA0, hV, rfl, hfz, hnd⟩ := hW
 have hA : DataW.TrodAll enc Try.prog W 0 (fun _ => true) true Try.f8.params.toList args.toList ds p := hA0
 rw [Try.params8] at hA hval
 obtain ⟨v0, vs0, d0, ds0, p0, q0, hargs, rfl, rfl, h0, r0⟩ := trodAll_cons hA
 obtain ⟨v1, vs1, d1, ds1, p1, q1, rfl, rfl, rfl, h1, r1⟩ := trodAll_cons r0
 obtain ⟨rfl, rfl, rfl⟩ := trodAll_nil r1
 obtain rfl : args = #[v0, v1] := by cases args; simp_all
 obtain ⟨rfl, rfl⟩ := trodVars_none hV
 obtain ⟨seed, rfl⟩ := open_key (n := 32) Try.underlying24 Try.underlying5 cellsU8 cellsKey (hval 0 24 _ rfl rfl) h0
 obtain ⟨al, capl, l, rfl, _,_, hrl, _⟩ := open_blks Try.underlying68 Try.underlying44 Try.underlying5 cellsU8 cellsBlk (hval 1 68 _ rfl rfl) h1
 refine (writes_law seed al capl l W hrl).mono fun e W' ⟨v, he, hv, hS⟩ => ?_
 subst hv
 exact ⟨_, he, law_post laidOut (by kernel_rfl) rfl Try.underlying4 rfl hW' rfl rfl rfl hS.below⟩

theorem reads (os : Os) {H : Type} (enc : TypeId × Value → H) : ∃ places, DataW.whole enc Try.prog ((laidWorld os).forCall (fun _ _ => 0) ⟨#[], #[.agg (Array.replicate 32 (.int .u8 0)), .slice none 0 0], []⟩).memory Try.f8.params.toList Rows.chainWritesSpec.vars false (#[.agg (Array.replicate 32 (.int .u8 0)), .slice none 0 0] : Array Value).toList 80 = some ([.agg (List.replicate 32 (.lit (.int .u8 0))), .nil], [], places) :=
 ⟨[], by kernel_rfl⟩
set_option maxRecDepth 100000 in
theorem lifted (os : Os) (started : os.Started) (H : Type) (enc : TypeId × Value → H) (F : Stop.Interp) :
  ReturnsInHanded {} Try.checked os 8 .any ((OpenSpec.ofChange Rows.chainWritesSpec).preRow enc Try.prog Try.f8 Rows.chainWritesRow.domain false Rows.chainWritesRow.laid) (((OpenSpec.ofChange Rows.chainWritesSpec).at F).post enc Try.prog Try.f8 false true false false) := by
 obtain ⟨places, hx⟩ := reads os enc
 refine returnsInHanded_of_row (C := Try.checked) (s := OpenSpec.ofChange Rows.chainWritesSpec) own started (by kernel_rfl) Try.func8
  (witness_row_at (enc := enc) (C := Try.checked) false (laidWorld os) #[.agg (Array.replicate 32 (.int .u8 0)), .slice none 0 0] rfl (by kernel_rfl) (by kernel_rfl) (by kernel_rfl)
   (OpenSpec.preRow_of_cond 80 hx (by kernel_rfl) (fun k hk => by cases hk) (by kernel_rfl) (laid_met os))) ?_
 intro W base args ds gs before hval hW _ _ _ hL _ _
 exact contract H enc W base args ds gs before hval hW
theorem said : Rows.ChainWritesSaid :=
 OpenClaim.holds_of_cond 8 Try.f8 rfl rfl rfl rfl rfl rfl rfl ⟨rfl, rfl, rfl, rfl, rfl⟩ rfl rfl rfl rfl rfl (by kernel_rfl) Try.func8 (by kernel_rfl)
  (of_decide_eq_true (by kernel_rfl)) (by unfold Func.isWrapper; first | (rw [if_pos (by decide +kernel)]; kernel_rfl) | (rw [if_neg (by decide +kernel)]; exact ⟨rfl, rfl⟩))
  (fun os started H enc _ F => by rw [OpenClaim.pre_eq_preRow]; exact lifted os started H enc F)
end Go.Proofs.Ytobfnieebiakeaa.lawWrites

