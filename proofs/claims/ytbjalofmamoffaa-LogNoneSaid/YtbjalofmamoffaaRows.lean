/-
  No cell of these rows narrows 'for every input' (looked for: loops, veiled, ifaces, maps, wideKeys, modest, calm, conditions, laid).
  DERIVED. THE GIVEN ROWS OF THIS SEAT. 5 by the template 'for every input the law returns true; each argument reads behind the call as it read before'; 0 by the template 'total and deterministic' (their statements: YtbjalofmamoffaaTotals.lean).
  GIVEN WITH THE SEED: the statements are not yours to turn. If you find one false, say at which input.
  Laid BY PROGRAM, IN A SANDBOX (cutbox-rows.mjs): the forced cells as the released guide's own fill.sh prints them over the translation 47eb6f03246d6c50… (all of the seat's roots in one cut). By AI agents, Wed Nov 11 2026. No macro, syntax, notation, axiom, sorry.
-/
import Derived.Test.YtbjalofmamoffaaChecked
import GoSem.Claim
import GoSem.ClaimJoined
import GoSem.ClaimMapViews
import Derived.JoinedTies
import Derived.KernelRfl
namespace Go.Proofs.Ytbjalofmamoffaa
/- THE CELL 'sum', in the pinned program and in every row, IS THE sha256 OF THE DUMP (.gsa) THAT YtbjalofmamoffaaProg.lean LOADS. Nothing in Lean hashes anything: it is a label: what it is worth is what the hold of that sum in a sandbox is worth. -/
noncomputable def Try.pinned : Pinned := { name := "ytbjalofmamoffaa", sum := "47eb6f03246d6c509805e7c555bb41f8332aead6d369fa23672c71a8a85cb3cf", checked := Try.checked }
namespace Rows
def none {H : Type} : Left H := { results := [], args := [] }

/-- 'erewhilelaw15.LogPlays': WHATEVER THE INPUT: true; the input reads as it did. -/
def logPlaysSpec : ChangeSpec := { name := "logPlays", fn := fun _ => fun
  | [d1, d2, d3] => { results := [.lit (.bool true)], args := [d1, d2, d3] }
  | _ => none }
def logPlaysRow : OpenClaim := { program := "ytbjalofmamoffaa", sum := "47eb6f03246d6c509805e7c555bb41f8332aead6d369fa23672c71a8a85cb3cf", func := "erewhile/erewhilelaw15.LogPlays", spec := "logPlays", unfollowed := true, recurses := true, apart := false }
def LogPlaysSaid : Prop := logPlaysRow.holds Try.pinned (OpenSpec.ofChange logPlaysSpec)

/-- ITS FALSE NEIGHBOUR: 'it returns false'. Refute it at one input. -/
def logPlaysWrong : ChangeSpec := { name := "logPlays", fn := fun _ => fun
  | [d1, d2, d3] => { results := [.lit (.bool false)], args := [d1, d2, d3] }
  | _ => none }
def LogPlaysWrongFalsely : Prop := logPlaysRow.holds Try.pinned (OpenSpec.ofChange logPlaysWrong)

/-- 'erewhilelaw15.LogGoesOn': WHATEVER THE INPUT: true; the input reads as it did. -/
def logGoesOnSpec : ChangeSpec := { name := "logGoesOn", fn := fun _ => fun
  | [d1, d2, d3, d4] => { results := [.lit (.bool true)], args := [d1, d2, d3, d4] }
  | _ => none }
def logGoesOnRow : OpenClaim := { program := "ytbjalofmamoffaa", sum := "47eb6f03246d6c509805e7c555bb41f8332aead6d369fa23672c71a8a85cb3cf", func := "erewhile/erewhilelaw15.LogGoesOn", spec := "logGoesOn", unfollowed := true, recurses := true, apart := false }
def LogGoesOnSaid : Prop := logGoesOnRow.holds Try.pinned (OpenSpec.ofChange logGoesOnSpec)

/-- ITS FALSE NEIGHBOUR: 'it returns false'. Refute it at one input. -/
def logGoesOnWrong : ChangeSpec := { name := "logGoesOn", fn := fun _ => fun
  | [d1, d2, d3, d4] => { results := [.lit (.bool false)], args := [d1, d2, d3, d4] }
  | _ => none }
def LogGoesOnWrongFalsely : Prop := logGoesOnRow.holds Try.pinned (OpenSpec.ofChange logGoesOnWrong)

/-- 'erewhilelaw15.LogMoves': WHATEVER THE INPUT: true; the input reads as it did. -/
def logMovesSpec : ChangeSpec := { name := "logMoves", fn := fun _ => fun
  | [d1, d2, d3] => { results := [.lit (.bool true)], args := [d1, d2, d3] }
  | _ => none }
def logMovesRow : OpenClaim := { program := "ytbjalofmamoffaa", sum := "47eb6f03246d6c509805e7c555bb41f8332aead6d369fa23672c71a8a85cb3cf", func := "erewhile/erewhilelaw15.LogMoves", spec := "logMoves", unfollowed := true, recurses := true, apart := false }
def LogMovesSaid : Prop := logMovesRow.holds Try.pinned (OpenSpec.ofChange logMovesSpec)

/-- ITS FALSE NEIGHBOUR: 'it returns false'. Refute it at one input. -/
def logMovesWrong : ChangeSpec := { name := "logMoves", fn := fun _ => fun
  | [d1, d2, d3] => { results := [.lit (.bool false)], args := [d1, d2, d3] }
  | _ => none }
def LogMovesWrongFalsely : Prop := logMovesRow.holds Try.pinned (OpenSpec.ofChange logMovesWrong)

/-- 'erewhilelaw15.LogElder': WHATEVER THE INPUT: true; the input reads as it did. -/
def logElderSpec : ChangeSpec := { name := "logElder", fn := fun _ => fun
  | [d1, d2, d3, d4] => { results := [.lit (.bool true)], args := [d1, d2, d3, d4] }
  | _ => none }
def logElderRow : OpenClaim := { program := "ytbjalofmamoffaa", sum := "47eb6f03246d6c509805e7c555bb41f8332aead6d369fa23672c71a8a85cb3cf", func := "erewhile/erewhilelaw15.LogElder", spec := "logElder", unfollowed := true, recurses := true, apart := false }
def LogElderSaid : Prop := logElderRow.holds Try.pinned (OpenSpec.ofChange logElderSpec)

/-- ITS FALSE NEIGHBOUR: 'it returns false'. Refute it at one input. -/
def logElderWrong : ChangeSpec := { name := "logElder", fn := fun _ => fun
  | [d1, d2, d3, d4] => { results := [.lit (.bool false)], args := [d1, d2, d3, d4] }
  | _ => none }
def LogElderWrongFalsely : Prop := logElderRow.holds Try.pinned (OpenSpec.ofChange logElderWrong)

/-- 'erewhilelaw15.LogNone': WHATEVER THE INPUT: true; the input reads as it did. -/
def logNoneSpec : ChangeSpec := { name := "logNone", fn := fun _ => fun
  | [d1, d2] => { results := [.lit (.bool true)], args := [d1, d2] }
  | _ => none }
def logNoneRow : OpenClaim := { program := "ytbjalofmamoffaa", sum := "47eb6f03246d6c509805e7c555bb41f8332aead6d369fa23672c71a8a85cb3cf", func := "erewhile/erewhilelaw15.LogNone", spec := "logNone", unfollowed := true, recurses := true, apart := false }
def LogNoneSaid : Prop := logNoneRow.holds Try.pinned (OpenSpec.ofChange logNoneSpec)

/-- ITS FALSE NEIGHBOUR: 'it returns false'. Refute it at one input. -/
def logNoneWrong : ChangeSpec := { name := "logNone", fn := fun _ => fun
  | [d1, d2] => { results := [.lit (.bool false)], args := [d1, d2] }
  | _ => none }
def LogNoneWrongFalsely : Prop := logNoneRow.holds Try.pinned (OpenSpec.ofChange logNoneWrong)

/- THE SECOND FORM. 'bulk': how many values and letters a reading holds, each counted each time it is reached (what is shared counts as often as it is met; a slice's spare places count too). A statement '..UptoSaid' is the law's where the arguments, and the package variables that the reading takes, are together of bulk at most 1048576: NARROWER than '..Said'. Prove '..Said' where nothing that the law and all that it calls make is longer than what came in: it says more and counts as full. Else prove '..UptoSaid'. A law counts once. -/
mutual
def uptoBulk {H : Type} : DataW H → Nat
  | .lit (.string bytes) => bytes.length + 1
  | .lit _ => 1
  | .nil => 1
  | .ptr d => uptoBulk d + 1
  | .slice elems spare => uptoBulkAll elems + uptoBulkAll spare + 1
  | .agg parts => uptoBulkAll parts + 1
  | .iface _ d => uptoBulk d + 1
  | .map entries => uptoBulkEntries entries + 1
  | .held _ => 1
def uptoBulkAll {H : Type} : List (DataW H) → Nat
  | [] => 0
  | d :: r => uptoBulk d + uptoBulkAll r
def uptoBulkEntries {H : Type} : List (Lit × DataW H) → Nat
  | [] => 0
  | x :: r => uptoBulkEntry x + uptoBulkEntries r
def uptoBulkEntry {H : Type} : Lit × DataW H → Nat
  | (.string bytes, d) => bytes.length + uptoBulk d + 1
  | (_, d) => uptoBulk d + 1
 end
def uptoSmall : (H : Type) → List (DataW H) → Bool := fun _ ds => decide (uptoBulkAll ds ≤ 1048576)
def OpenSpec.upto (s : _root_.Go.ChangeSpec) : _root_.Go.OpenSpec := { _root_.Go.OpenSpec.ofChange s with cond := some uptoSmall }

/-- 'erewhilelaw15.LogPlays', WHERE WHAT IT READS IS OF BULK AT MOST 1048576: true; the input reads as it did. -/
def logPlaysUptoRow : OpenClaim := { program := "ytbjalofmamoffaa", sum := "47eb6f03246d6c509805e7c555bb41f8332aead6d369fa23672c71a8a85cb3cf", func := "erewhile/erewhilelaw15.LogPlays", spec := "logPlays", unfollowed := true, recurses := true, apart := false, narrowed := true }
def LogPlaysUptoSaid : Prop := logPlaysUptoRow.holds Try.pinned (OpenSpec.upto logPlaysSpec)

/-- 'erewhilelaw15.LogGoesOn', WHERE WHAT IT READS IS OF BULK AT MOST 1048576: true; the input reads as it did. -/
def logGoesOnUptoRow : OpenClaim := { program := "ytbjalofmamoffaa", sum := "47eb6f03246d6c509805e7c555bb41f8332aead6d369fa23672c71a8a85cb3cf", func := "erewhile/erewhilelaw15.LogGoesOn", spec := "logGoesOn", unfollowed := true, recurses := true, apart := false, narrowed := true }
def LogGoesOnUptoSaid : Prop := logGoesOnUptoRow.holds Try.pinned (OpenSpec.upto logGoesOnSpec)

/-- 'erewhilelaw15.LogMoves', WHERE WHAT IT READS IS OF BULK AT MOST 1048576: true; the input reads as it did. -/
def logMovesUptoRow : OpenClaim := { program := "ytbjalofmamoffaa", sum := "47eb6f03246d6c509805e7c555bb41f8332aead6d369fa23672c71a8a85cb3cf", func := "erewhile/erewhilelaw15.LogMoves", spec := "logMoves", unfollowed := true, recurses := true, apart := false, narrowed := true }
def LogMovesUptoSaid : Prop := logMovesUptoRow.holds Try.pinned (OpenSpec.upto logMovesSpec)

/-- 'erewhilelaw15.LogElder', WHERE WHAT IT READS IS OF BULK AT MOST 1048576: true; the input reads as it did. -/
def logElderUptoRow : OpenClaim := { program := "ytbjalofmamoffaa", sum := "47eb6f03246d6c509805e7c555bb41f8332aead6d369fa23672c71a8a85cb3cf", func := "erewhile/erewhilelaw15.LogElder", spec := "logElder", unfollowed := true, recurses := true, apart := false, narrowed := true }
def LogElderUptoSaid : Prop := logElderUptoRow.holds Try.pinned (OpenSpec.upto logElderSpec)

/-- 'erewhilelaw15.LogNone', WHERE WHAT IT READS IS OF BULK AT MOST 1048576: true; the input reads as it did. -/
def logNoneUptoRow : OpenClaim := { program := "ytbjalofmamoffaa", sum := "47eb6f03246d6c509805e7c555bb41f8332aead6d369fa23672c71a8a85cb3cf", func := "erewhile/erewhilelaw15.LogNone", spec := "logNone", unfollowed := true, recurses := true, apart := false, narrowed := true }
def LogNoneUptoSaid : Prop := logNoneUptoRow.holds Try.pinned (OpenSpec.upto logNoneSpec)

end Rows
end Go.Proofs.Ytbjalofmamoffaa
