/-
 The law erewhile/erewhilelaw23.ChainCloses holds of the program for every input: it returns true, and its arguments read as they did.
 Its condition: that the call is one that the row speaks of.
-/
import Derived.Test.YtobfnieebiakeaaPM
import Derived.Test.YtobfnieebiakeaaRows
import Derived.Test.YtobfnieebiakeaaPCx1
import Derived.Test.YtobfnieebiakeaaPVx2
import Derived.Test.YtobfnieebiakeaaPH5
namespace Go.Proofs.Ytobfnieebiakeaa.lawCloses
open Go Go.Er Go.ChangeShapes Go.WideShapes Go.RowKit
theorem own : ownKnob Try.prog.godebug = none := by kernel_rfl
theorem laidOut : laidOutB Try.prog = true := by kernel_rfl
theorem ceD43 : CeD Try.prog 43 := ⟨by kernel_rfl, #[⟨ "Kind", 3, 0, false, "", "", 0⟩, ⟨ "Num", 28, 1, false, "", "", 8⟩, ⟨ "Min", 3, 2, false, "", "", 16⟩, ⟨ "Place", 40, 3, false, "", "", 24⟩, ⟨ "Ref", 28, 6, false, "", "", 48⟩, ⟨ "From", 3, 7, false, "", "", 56⟩, ⟨ "To", 3, 8, false, "", "", 64⟩, ⟨ "Until", 3, 9, false, "", "", 72⟩, ⟨ "Body", 41, 10, false, "", "", 80⟩], #[⟨ "Branch", 3, 0, false, "", "", 0⟩, ⟨ "Vol", 3, 1, false, "", "", 8⟩, ⟨ "Blk", 3, 2, false, "", "", 16⟩], ⟨ "Kind", 3, 0, false, "", "", 0⟩, ⟨ "Num", 28, 1, false, "", "", 8⟩, ⟨ "Min", 3, 2, false, "", "", 16⟩, ⟨ "Place", 40, 3, false, "", "", 24⟩, ⟨ "Ref", 28, 6, false, "", "", 48⟩, ⟨ "From", 3, 7, false, "", "", 56⟩, ⟨ "To", 3, 8, false, "", "", 64⟩, ⟨ "Until", 3, 9, false, "", "", 72⟩, ⟨ "Body", 41, 10, false, "", "", 80⟩, ⟨ "Branch", 3, 0, false, "", "", 0⟩, ⟨ "Vol", 3, 1, false, "", "", 8⟩, ⟨ "Blk", 3, 2, false, "", "", 16⟩, 5, by kernel_rfl, rfl, ⟨rfl, rfl, rfl, rfl, rfl, rfl, rfl, rfl, rfl⟩, ⟨by kernel_rfl, by kernel_rfl, by kernel_rfl, by kernel_rfl, by kernel_rfl, by kernel_rfl, by kernel_rfl, by kernel_rfl, by kernel_rfl⟩, ⟨by kernel_rfl, by kernel_rfl, by kernel_rfl, by kernel_rfl, by kernel_rfl, by kernel_rfl, by kernel_rfl, by kernel_rfl, by kernel_rfl⟩, by kernel_rfl, by kernel_rfl, rfl, ⟨rfl, rfl, rfl⟩, ⟨by kernel_rfl, by kernel_rfl, by kernel_rfl⟩, ⟨by kernel_rfl, by kernel_rfl, by kernel_rfl⟩⟩
theorem caD27 : CaD Try.prog 27 := ⟨by kernel_rfl, #[⟨ "Cells", 22, 0, false, "", "", 0⟩, ⟨ "Seed", 24, 1, false, "", "", 24⟩, ⟨ "Gone", 25, 33, false, "", "", 56⟩], ⟨ "Cells", 22, 0, false, "", "", 0⟩, ⟨ "Seed", 24, 1, false, "", "", 24⟩, ⟨ "Gone", 25, 33, false, "", "", 56⟩, 43, 5, 28, by kernel_rfl, rfl, ⟨rfl, rfl, rfl⟩, ⟨by kernel_rfl, by kernel_rfl, by kernel_rfl⟩, ⟨by kernel_rfl, by kernel_rfl, by kernel_rfl⟩, ceD43, ⟨by kernel_rfl, by kernel_rfl⟩, ⟨by kernel_rfl, by kernel_rfl⟩⟩
theorem cellsU64 : Try.prog.cellsOf 28 = 1 := by kernel_rfl

noncomputable def laidWorld (os : Os) : World := World.holding Try.prog os ⟨#[], #[], []⟩
theorem laid_met (os : Os) : laidMet Try.prog Rows.chainClosesRow.laid ((laidWorld os).forCall (fun _ _ => 0) ⟨#[], #[.agg (Value.slice none 0 0 :: (List.replicate 32 (Value.int .u8 0) ++ [Value.slice none 0 0])).toArray, .slice none 0 0], []⟩).memory :=
 laidMet_of_run' 80 (by kernel_rfl) (by kernel_rfl)

set_option maxRecDepth 100000 in
theorem contract (H : Type) (enc : TypeId × Value → H) (W : World) (base : Nat) (args : Array Value) (ds gs : List (DataW H)) (before : List MemPlace)
  (hval : ∀ (j : Nat) t v, Try.f5.params[j]? = some t → args[j]? = some v → Value.okWide Try.prog W .any base t v)
  (hW : DataW.Whole enc Try.prog Try.f5.params.toList Rows.chainClosesSpec.vars false W args.toList ds gs before) :
  Calls Try.prog 5 args W fun e W' => ∃ v, e = .returned v ∧ Rows.chainClosesSpec.post enc Try.prog Try.f5 false true false false W args v W' := by
 have hW' := hW
 obtain ⟨p, q, hA0, hV, rfl, hfz, hnd⟩ := hW
 have hA : DataW.TrodAll enc Try.prog W 0 (fun _ => true) true Try.f5.params.toList args.toList ds p := hA0
 rw [Try.params5] at hA hval
 obtain ⟨v0, vs0, d0, ds0, p0, q0, hargs, rfl, rfl, h0, r0⟩ := trodAll_cons hA
 obtain ⟨v1, vs1, d1, ds1, p1, q1, rfl, rfl, rfl, h1, r1⟩ := trodAll_cons r0
 obtain ⟨rfl, rfl, rfl⟩ := trodAll_nil r1
 obtain rfl : args = #[v0, v1] := by cases args; simp_all
 obtain ⟨rfl, rfl⟩ := trodVars_none hV
 obtain ⟨a, c, cl, seed, ga, gc, ns, rfl, hq⟩ := open_case caD27 (hval 0 27 _ rfl rfl) h0
 obtain ⟨al, capl, l, rfl, hcapl, hmaxl, hrl, hul⟩ := open_u64s Try.underlying25 Try.underlying28 cellsU64 (hval 1 25 _ rfl rfl) h1
 refine (closes_law a c cl seed ga gc ns al capl l W hq hrl).mono fun e W' ⟨v, he, hv, hS⟩ => ?_
 subst hv
 exact ⟨_, he, law_post laidOut (by kernel_rfl) rfl Try.underlying4 rfl hW' rfl rfl rfl hS.below⟩

theorem reads (os : Os) {H : Type} (enc : TypeId × Value → H) : ∃ places, DataW.whole enc Try.prog ((laidWorld os).forCall (fun _ _ => 0) ⟨#[], #[.agg (Value.slice none 0 0 :: (List.replicate 32 (Value.int .u8 0) ++ [Value.slice none 0 0])).toArray, .slice none 0 0], []⟩).memory Try.f5.params.toList Rows.chainClosesSpec.vars false (#[.agg (Value.slice none 0 0 :: (List.replicate 32 (Value.int .u8 0) ++ [Value.slice none 0 0])).toArray, .slice none 0 0] : Array Value).toList 80 = some ([.agg [.nil, .agg (List.replicate 32 (.lit (.int .u8 0))), .nil], .nil], [], places) :=
 ⟨[], by kernel_rfl⟩
set_option maxRecDepth 100000 in
theorem lifted (os : Os) (started : os.Started) (H : Type) (enc : TypeId × Value → H) (F : Stop.Interp) :
  ReturnsInHanded {} Try.checked os 5 .any ((OpenSpec.ofChange Rows.chainClosesSpec).preRow enc Try.prog Try.f5 Rows.chainClosesRow.domain false Rows.chainClosesRow.laid) (((OpenSpec.ofChange Rows.chainClosesSpec).at F).post enc Try.prog Try.f5 false true false false) := by
 obtain ⟨places, hx⟩ := reads os enc
 refine returnsInHanded_of_row (C := Try.checked) (s := OpenSpec.ofChange Rows.chainClosesSpec) own started (by kernel_rfl) Try.func5
  (witness_row_at (enc := enc) (C := Try.checked) false (laidWorld os) #[.agg (Value.slice none 0 0 :: (List.replicate 32 (Value.int .u8 0) ++ [Value.slice none 0 0])).toArray, .slice none 0 0] rfl (by kernel_rfl) (by kernel_rfl) (by kernel_rfl)
   (OpenSpec.preRow_of_cond 80 hx (by kernel_rfl) (fun k hk => by cases hk) (by kernel_rfl) (laid_met os))) ?_
 intro W base args ds gs before hval hW _ _ _ hL _ _
 exact contract H enc W base args ds gs before hval hW
theorem said : Rows.ChainClosesSaid :=
 OpenClaim.holds_of_cond 5 Try.f5 rfl rfl rfl rfl rfl rfl rfl ⟨rfl, rfl, rfl, rfl, rfl⟩ rfl rfl rfl rfl rfl (by kernel_rfl) Try.func5 (by kernel_rfl)
  (of_decide_eq_true (by kernel_rfl)) (by unfold Func.isWrapper; first | (rw [if_pos (by decide +kernel)]; kernel_rfl) | (rw [if_neg (by decide +kernel)]; exact ⟨rfl, rfl⟩))
  (fun os started H enc _ F => by rw [OpenClaim.pre_eq_preRow]; exact lifted os started H enc F)
end Go.Proofs.Ytobfnieebiakeaa.lawCloses

