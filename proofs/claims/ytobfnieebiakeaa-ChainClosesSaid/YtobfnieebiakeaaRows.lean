/-
  No cell of these rows narrows 'for every input' (looked for: loops, veiled, ifaces, maps, wideKeys, modest, calm, conditions, laid).
  DERIVED. THE GIVEN ROWS OF THIS SEAT. 6 by the template 'for every input the law returns true; each argument reads behind the call as it read before'; 0 by the template 'total and deterministic' (their statements: YtobfnieebiakeaaTotals.lean).
  GIVEN WITH THE SEED: the statements are not yours to turn. If you find one false, say at which input.
  Laid BY PROGRAM, IN A SANDBOX (cutbox-rows.mjs): the forced cells as the released guide's own fill.sh prints them over the translation dd1d1bf051fb61df… (all of the seat's roots in one cut). By AI agents, Wed Nov 11 2026. No macro, syntax, notation, axiom, sorry.
-/
import Derived.Test.YtobfnieebiakeaaChecked
import GoSem.Claim
import GoSem.ClaimJoined
import GoSem.ClaimMapViews
import Derived.JoinedTies
import Derived.KernelRfl
namespace Go.Proofs.Ytobfnieebiakeaa
/- THE CELL 'sum', in the pinned program and in every row, IS THE sha256 OF THE DUMP (.gsa) THAT YtobfnieebiakeaaProg.lean LOADS. Nothing in Lean hashes anything: it is a label: what it is worth is what the hold of that sum in a sandbox is worth. -/
noncomputable def Try.pinned : Pinned := { name := "ytobfnieebiakeaa", sum := "dd1d1bf051fb61df7a606db93bf4d7a8412432937fe56dd0b13dcb11e0d566f8", checked := Try.checked }
namespace Rows
def none {H : Type} : Left H := { results := [], args := [] }

/-- 'erewhilelaw23.ChainLean': WHATEVER THE INPUT: true; the input reads as it did. -/
def chainLeanSpec : ChangeSpec := { name := "chainLean", fn := fun _ => fun
  | [d1, d2] => { results := [.lit (.bool true)], args := [d1, d2] }
  | _ => none }
def chainLeanRow : OpenClaim := { program := "ytobfnieebiakeaa", sum := "dd1d1bf051fb61df7a606db93bf4d7a8412432937fe56dd0b13dcb11e0d566f8", func := "erewhile/erewhilelaw23.ChainLean", spec := "chainLean", inPlace := ["slices.overlaps[erewhile/keytree.Held]"], unfollowed := true, recurses := true, apart := false }
def ChainLeanSaid : Prop := chainLeanRow.holds Try.pinned (OpenSpec.ofChange chainLeanSpec)

/-- ITS FALSE NEIGHBOUR: 'it returns false'. Refute it at one input. -/
def chainLeanWrong : ChangeSpec := { name := "chainLean", fn := fun _ => fun
  | [d1, d2] => { results := [.lit (.bool false)], args := [d1, d2] }
  | _ => none }
def ChainLeanWrongFalsely : Prop := chainLeanRow.holds Try.pinned (OpenSpec.ofChange chainLeanWrong)

/-- 'erewhilelaw23.ChainGone': WHATEVER THE INPUT: true; the input reads as it did. -/
def chainGoneSpec : ChangeSpec := { name := "chainGone", fn := fun _ => fun
  | [d1, d2, d3, d4] => { results := [.lit (.bool true)], args := [d1, d2, d3, d4] }
  | _ => none }
def chainGoneRow : OpenClaim := { program := "ytobfnieebiakeaa", sum := "dd1d1bf051fb61df7a606db93bf4d7a8412432937fe56dd0b13dcb11e0d566f8", func := "erewhile/erewhilelaw23.ChainGone", spec := "chainGone", inPlace := ["slices.overlaps[erewhile/keytree.Held]"], unfollowed := true, recurses := true, apart := false }
def ChainGoneSaid : Prop := chainGoneRow.holds Try.pinned (OpenSpec.ofChange chainGoneSpec)

/-- ITS FALSE NEIGHBOUR: 'it returns false'. Refute it at one input. -/
def chainGoneWrong : ChangeSpec := { name := "chainGone", fn := fun _ => fun
  | [d1, d2, d3, d4] => { results := [.lit (.bool false)], args := [d1, d2, d3, d4] }
  | _ => none }
def ChainGoneWrongFalsely : Prop := chainGoneRow.holds Try.pinned (OpenSpec.ofChange chainGoneWrong)

/-- 'erewhilelaw23.ChainCloses': WHATEVER THE INPUT: true; the input reads as it did. -/
def chainClosesSpec : ChangeSpec := { name := "chainCloses", fn := fun _ => fun
  | [d1, d2] => { results := [.lit (.bool true)], args := [d1, d2] }
  | _ => none }
def chainClosesRow : OpenClaim := { program := "ytobfnieebiakeaa", sum := "dd1d1bf051fb61df7a606db93bf4d7a8412432937fe56dd0b13dcb11e0d566f8", func := "erewhile/erewhilelaw23.ChainCloses", spec := "chainCloses", inPlace := ["slices.overlaps[erewhile/keytree.Held]"], unfollowed := true, recurses := true, apart := false }
def ChainClosesSaid : Prop := chainClosesRow.holds Try.pinned (OpenSpec.ofChange chainClosesSpec)

/-- ITS FALSE NEIGHBOUR: 'it returns false'. Refute it at one input. -/
def chainClosesWrong : ChangeSpec := { name := "chainCloses", fn := fun _ => fun
  | [d1, d2] => { results := [.lit (.bool false)], args := [d1, d2] }
  | _ => none }
def ChainClosesWrongFalsely : Prop := chainClosesRow.holds Try.pinned (OpenSpec.ofChange chainClosesWrong)

/-- 'erewhilelaw23.ChainDeep': WHATEVER THE INPUT: true; the input reads as it did. -/
def chainDeepSpec : ChangeSpec := { name := "chainDeep", fn := fun _ => fun
  | [d1, d2, d3] => { results := [.lit (.bool true)], args := [d1, d2, d3] }
  | _ => none }
def chainDeepRow : OpenClaim := { program := "ytobfnieebiakeaa", sum := "dd1d1bf051fb61df7a606db93bf4d7a8412432937fe56dd0b13dcb11e0d566f8", func := "erewhile/erewhilelaw23.ChainDeep", spec := "chainDeep", inPlace := ["slices.overlaps[erewhile/keytree.Held]"], unfollowed := true, recurses := true, apart := false }
def ChainDeepSaid : Prop := chainDeepRow.holds Try.pinned (OpenSpec.ofChange chainDeepSpec)

/-- ITS FALSE NEIGHBOUR: 'it returns false'. Refute it at one input. -/
def chainDeepWrong : ChangeSpec := { name := "chainDeep", fn := fun _ => fun
  | [d1, d2, d3] => { results := [.lit (.bool false)], args := [d1, d2, d3] }
  | _ => none }
def ChainDeepWrongFalsely : Prop := chainDeepRow.holds Try.pinned (OpenSpec.ofChange chainDeepWrong)

/-- 'erewhilelaw23.ChainRenewed': WHATEVER THE INPUT: true; the input reads as it did. -/
def chainRenewedSpec : ChangeSpec := { name := "chainRenewed", fn := fun _ => fun
  | [d1, d2, d3] => { results := [.lit (.bool true)], args := [d1, d2, d3] }
  | _ => none }
def chainRenewedRow : OpenClaim := { program := "ytobfnieebiakeaa", sum := "dd1d1bf051fb61df7a606db93bf4d7a8412432937fe56dd0b13dcb11e0d566f8", func := "erewhile/erewhilelaw23.ChainRenewed", spec := "chainRenewed", inPlace := ["slices.overlaps[erewhile/keytree.Held]"], unfollowed := true, recurses := true, apart := false }
def ChainRenewedSaid : Prop := chainRenewedRow.holds Try.pinned (OpenSpec.ofChange chainRenewedSpec)

/-- ITS FALSE NEIGHBOUR: 'it returns false'. Refute it at one input. -/
def chainRenewedWrong : ChangeSpec := { name := "chainRenewed", fn := fun _ => fun
  | [d1, d2, d3] => { results := [.lit (.bool false)], args := [d1, d2, d3] }
  | _ => none }
def ChainRenewedWrongFalsely : Prop := chainRenewedRow.holds Try.pinned (OpenSpec.ofChange chainRenewedWrong)

/-- 'erewhilelaw23.ChainWrites': WHATEVER THE INPUT: true; the input reads as it did. -/
def chainWritesSpec : ChangeSpec := { name := "chainWrites", fn := fun _ => fun
  | [d1, d2] => { results := [.lit (.bool true)], args := [d1, d2] }
  | _ => none }
def chainWritesRow : OpenClaim := { program := "ytobfnieebiakeaa", sum := "dd1d1bf051fb61df7a606db93bf4d7a8412432937fe56dd0b13dcb11e0d566f8", func := "erewhile/erewhilelaw23.ChainWrites", spec := "chainWrites", inPlace := ["slices.overlaps[erewhile/keytree.Held]"], unfollowed := true, recurses := true, apart := false }
def ChainWritesSaid : Prop := chainWritesRow.holds Try.pinned (OpenSpec.ofChange chainWritesSpec)

/-- ITS FALSE NEIGHBOUR: 'it returns false'. Refute it at one input. -/
def chainWritesWrong : ChangeSpec := { name := "chainWrites", fn := fun _ => fun
  | [d1, d2] => { results := [.lit (.bool false)], args := [d1, d2] }
  | _ => none }
def ChainWritesWrongFalsely : Prop := chainWritesRow.holds Try.pinned (OpenSpec.ofChange chainWritesWrong)

/- THE SECOND FORM. 'bulk': how many values and letters a reading holds, each counted each time it is reached (what is shared counts as often as it is met; a slice's spare places count too). A statement '..UptoSaid' is the law's where the arguments, and the package variables that the reading takes, are together of bulk at most 1048576: NARROWER than '..Said'. Prove '..Said' where nothing that the law and all that it calls make is longer than what came in: it says more and counts as full. Else prove '..UptoSaid'. A law counts once. -/
mutual
def uptoBulk {H : Type} : DataW H → Nat
  | .lit (.string bytes) => bytes.length + 1
  | .lit _ => 1
  | .nil => 1
  | .ptr d => uptoBulk d + 1
  | .slice elems spare => uptoBulkAll elems + uptoBulkAll spare + 1
  | .agg parts => uptoBulkAll parts + 1
  | .iface _ d => uptoBulk d + 1
  | .map entries => uptoBulkEntries entries + 1
  | .held _ => 1
def uptoBulkAll {H : Type} : List (DataW H) → Nat
  | [] => 0
  | d :: r => uptoBulk d + uptoBulkAll r
def uptoBulkEntries {H : Type} : List (Lit × DataW H) → Nat
  | [] => 0
  | x :: r => uptoBulkEntry x + uptoBulkEntries r
def uptoBulkEntry {H : Type} : Lit × DataW H → Nat
  | (.string bytes, d) => bytes.length + uptoBulk d + 1
  | (_, d) => uptoBulk d + 1
 end
def uptoSmall : (H : Type) → List (DataW H) → Bool := fun _ ds => decide (uptoBulkAll ds ≤ 1048576)
def OpenSpec.upto (s : _root_.Go.ChangeSpec) : _root_.Go.OpenSpec := { _root_.Go.OpenSpec.ofChange s with cond := some uptoSmall }

/-- 'erewhilelaw23.ChainLean', WHERE WHAT IT READS IS OF BULK AT MOST 1048576: true; the input reads as it did. -/
def chainLeanUptoRow : OpenClaim := { program := "ytobfnieebiakeaa", sum := "dd1d1bf051fb61df7a606db93bf4d7a8412432937fe56dd0b13dcb11e0d566f8", func := "erewhile/erewhilelaw23.ChainLean", spec := "chainLean", inPlace := ["slices.overlaps[erewhile/keytree.Held]"], unfollowed := true, recurses := true, apart := false, narrowed := true }
def ChainLeanUptoSaid : Prop := chainLeanUptoRow.holds Try.pinned (OpenSpec.upto chainLeanSpec)

/-- 'erewhilelaw23.ChainGone', WHERE WHAT IT READS IS OF BULK AT MOST 1048576: true; the input reads as it did. -/
def chainGoneUptoRow : OpenClaim := { program := "ytobfnieebiakeaa", sum := "dd1d1bf051fb61df7a606db93bf4d7a8412432937fe56dd0b13dcb11e0d566f8", func := "erewhile/erewhilelaw23.ChainGone", spec := "chainGone", inPlace := ["slices.overlaps[erewhile/keytree.Held]"], unfollowed := true, recurses := true, apart := false, narrowed := true }
def ChainGoneUptoSaid : Prop := chainGoneUptoRow.holds Try.pinned (OpenSpec.upto chainGoneSpec)

/-- 'erewhilelaw23.ChainCloses', WHERE WHAT IT READS IS OF BULK AT MOST 1048576: true; the input reads as it did. -/
def chainClosesUptoRow : OpenClaim := { program := "ytobfnieebiakeaa", sum := "dd1d1bf051fb61df7a606db93bf4d7a8412432937fe56dd0b13dcb11e0d566f8", func := "erewhile/erewhilelaw23.ChainCloses", spec := "chainCloses", inPlace := ["slices.overlaps[erewhile/keytree.Held]"], unfollowed := true, recurses := true, apart := false, narrowed := true }
def ChainClosesUptoSaid : Prop := chainClosesUptoRow.holds Try.pinned (OpenSpec.upto chainClosesSpec)

/-- 'erewhilelaw23.ChainDeep', WHERE WHAT IT READS IS OF BULK AT MOST 1048576: true; the input reads as it did. -/
def chainDeepUptoRow : OpenClaim := { program := "ytobfnieebiakeaa", sum := "dd1d1bf051fb61df7a606db93bf4d7a8412432937fe56dd0b13dcb11e0d566f8", func := "erewhile/erewhilelaw23.ChainDeep", spec := "chainDeep", inPlace := ["slices.overlaps[erewhile/keytree.Held]"], unfollowed := true, recurses := true, apart := false, narrowed := true }
def ChainDeepUptoSaid : Prop := chainDeepUptoRow.holds Try.pinned (OpenSpec.upto chainDeepSpec)

/-- 'erewhilelaw23.ChainRenewed', WHERE WHAT IT READS IS OF BULK AT MOST 1048576: true; the input reads as it did. -/
def chainRenewedUptoRow : OpenClaim := { program := "ytobfnieebiakeaa", sum := "dd1d1bf051fb61df7a606db93bf4d7a8412432937fe56dd0b13dcb11e0d566f8", func := "erewhile/erewhilelaw23.ChainRenewed", spec := "chainRenewed", inPlace := ["slices.overlaps[erewhile/keytree.Held]"], unfollowed := true, recurses := true, apart := false, narrowed := true }
def ChainRenewedUptoSaid : Prop := chainRenewedUptoRow.holds Try.pinned (OpenSpec.upto chainRenewedSpec)

/-- 'erewhilelaw23.ChainWrites', WHERE WHAT IT READS IS OF BULK AT MOST 1048576: true; the input reads as it did. -/
def chainWritesUptoRow : OpenClaim := { program := "ytobfnieebiakeaa", sum := "dd1d1bf051fb61df7a606db93bf4d7a8412432937fe56dd0b13dcb11e0d566f8", func := "erewhile/erewhilelaw23.ChainWrites", spec := "chainWrites", inPlace := ["slices.overlaps[erewhile/keytree.Held]"], unfollowed := true, recurses := true, apart := false, narrowed := true }
def ChainWritesUptoSaid : Prop := chainWritesUptoRow.holds Try.pinned (OpenSpec.upto chainWritesSpec)

end Rows
end Go.Proofs.Ytobfnieebiakeaa
