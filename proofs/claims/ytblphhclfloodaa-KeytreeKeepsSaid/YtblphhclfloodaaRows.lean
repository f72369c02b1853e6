/-
  No cell of these rows narrows 'for every input' (looked for: loops, veiled, ifaces, maps, wideKeys, modest, calm, conditions, laid).
  DERIVED. THE GIVEN ROWS OF THIS SEAT. 9 by the template 'for every input the law returns true; each argument reads behind the call as it read before'; 0 by the template 'total and deterministic' (their statements: YtblphhclfloodaaTotals.lean).
  GIVEN WITH THE SEED: the statements are not yours to turn. If you find one false, say at which input.
  Laid BY PROGRAM, IN A SANDBOX (cutbox-rows.mjs): the forced cells as the released guide's own fill.sh prints them over the translation 5a5e7f3548299a72… (all of the seat's roots in one cut). By AI agents, Wed Nov 11 2026. No macro, syntax, notation, axiom, sorry.
-/
import Derived.Test.YtblphhclfloodaaChecked
import GoSem.Claim
import GoSem.ClaimJoined
import GoSem.ClaimMapViews
import Derived.JoinedTies
import Derived.KernelRfl
namespace Go.Proofs.Ytblphhclfloodaa
/- THE CELL 'sum', in the pinned program and in every row, IS THE sha256 OF THE DUMP (.gsa) THAT YtblphhclfloodaaProg.lean LOADS. Nothing in Lean hashes anything: it is a label: what it is worth is what the hold of that sum in a sandbox is worth. -/
noncomputable def Try.pinned : Pinned := { name := "ytblphhclfloodaa", sum := "5a5e7f3548299a728a07ab0951bf1e273923e6c2f214e109b0d8da5ff41b5fce", checked := Try.checked }
namespace Rows
def none {H : Type} : Left H := { results := [], args := [] }

/-- 'erewhilelaw06.KeytreeOrder': WHATEVER THE INPUT: true; the input reads as it did. -/
def keytreeOrderSpec : ChangeSpec := { name := "keytreeOrder", fn := fun _ => fun
  | [d1, d2, d3] => { results := [.lit (.bool true)], args := [d1, d2, d3] }
  | _ => none }
def keytreeOrderRow : OpenClaim := { program := "ytblphhclfloodaa", sum := "5a5e7f3548299a728a07ab0951bf1e273923e6c2f214e109b0d8da5ff41b5fce", func := "erewhile/erewhilelaw06.KeytreeOrder", spec := "keytreeOrder", inPlace := ["slices.overlaps[erewhile/keytree.Held]"], unfollowed := true, recurses := true, apart := false }
def KeytreeOrderSaid : Prop := keytreeOrderRow.holds Try.pinned (OpenSpec.ofChange keytreeOrderSpec)

/-- ITS FALSE NEIGHBOUR: 'it returns false'. Refute it at one input. -/
def keytreeOrderWrong : ChangeSpec := { name := "keytreeOrder", fn := fun _ => fun
  | [d1, d2, d3] => { results := [.lit (.bool false)], args := [d1, d2, d3] }
  | _ => none }
def KeytreeOrderWrongFalsely : Prop := keytreeOrderRow.holds Try.pinned (OpenSpec.ofChange keytreeOrderWrong)

/-- 'erewhilelaw06.KeytreeClear': WHATEVER THE INPUT: true; the input reads as it did. -/
def keytreeClearSpec : ChangeSpec := { name := "keytreeClear", fn := fun _ => fun
  | [d1, d2] => { results := [.lit (.bool true)], args := [d1, d2] }
  | _ => none }
def keytreeClearRow : OpenClaim := { program := "ytblphhclfloodaa", sum := "5a5e7f3548299a728a07ab0951bf1e273923e6c2f214e109b0d8da5ff41b5fce", func := "erewhile/erewhilelaw06.KeytreeClear", spec := "keytreeClear", inPlace := ["slices.overlaps[erewhile/keytree.Held]"], unfollowed := true, recurses := true, apart := false }
def KeytreeClearSaid : Prop := keytreeClearRow.holds Try.pinned (OpenSpec.ofChange keytreeClearSpec)

/-- ITS FALSE NEIGHBOUR: 'it returns false'. Refute it at one input. -/
def keytreeClearWrong : ChangeSpec := { name := "keytreeClear", fn := fun _ => fun
  | [d1, d2] => { results := [.lit (.bool false)], args := [d1, d2] }
  | _ => none }
def KeytreeClearWrongFalsely : Prop := keytreeClearRow.holds Try.pinned (OpenSpec.ofChange keytreeClearWrong)

/-- 'erewhilelaw06.KeytreeSplit': WHATEVER THE INPUT: true; the input reads as it did. -/
def keytreeSplitSpec : ChangeSpec := { name := "keytreeSplit", fn := fun _ => fun
  | [d1, d2] => { results := [.lit (.bool true)], args := [d1, d2] }
  | _ => none }
def keytreeSplitRow : OpenClaim := { program := "ytblphhclfloodaa", sum := "5a5e7f3548299a728a07ab0951bf1e273923e6c2f214e109b0d8da5ff41b5fce", func := "erewhile/erewhilelaw06.KeytreeSplit", spec := "keytreeSplit", inPlace := ["slices.overlaps[erewhile/keytree.Held]"], unfollowed := true, recurses := true, apart := false }
def KeytreeSplitSaid : Prop := keytreeSplitRow.holds Try.pinned (OpenSpec.ofChange keytreeSplitSpec)

/-- ITS FALSE NEIGHBOUR: 'it returns false'. Refute it at one input. -/
def keytreeSplitWrong : ChangeSpec := { name := "keytreeSplit", fn := fun _ => fun
  | [d1, d2] => { results := [.lit (.bool false)], args := [d1, d2] }
  | _ => none }
def KeytreeSplitWrongFalsely : Prop := keytreeSplitRow.holds Try.pinned (OpenSpec.ofChange keytreeSplitWrong)

/-- 'erewhilelaw06.KeytreePlays': WHATEVER THE INPUT: true; the input reads as it did. -/
def keytreePlaysSpec : ChangeSpec := { name := "keytreePlays", fn := fun _ => fun
  | [d1, d2, d3] => { results := [.lit (.bool true)], args := [d1, d2, d3] }
  | _ => none }
def keytreePlaysRow : OpenClaim := { program := "ytblphhclfloodaa", sum := "5a5e7f3548299a728a07ab0951bf1e273923e6c2f214e109b0d8da5ff41b5fce", func := "erewhile/erewhilelaw06.KeytreePlays", spec := "keytreePlays", inPlace := ["slices.overlaps[erewhile/keytree.Held]"], unfollowed := true, recurses := true, apart := false }
def KeytreePlaysSaid : Prop := keytreePlaysRow.holds Try.pinned (OpenSpec.ofChange keytreePlaysSpec)

/-- ITS FALSE NEIGHBOUR: 'it returns false'. Refute it at one input. -/
def keytreePlaysWrong : ChangeSpec := { name := "keytreePlays", fn := fun _ => fun
  | [d1, d2, d3] => { results := [.lit (.bool false)], args := [d1, d2, d3] }
  | _ => none }
def KeytreePlaysWrongFalsely : Prop := keytreePlaysRow.holds Try.pinned (OpenSpec.ofChange keytreePlaysWrong)

/-- 'erewhilelaw06.KeytreeKeeps': WHATEVER THE INPUT: true; the input reads as it did. -/
def keytreeKeepsSpec : ChangeSpec := { name := "keytreeKeeps", fn := fun _ => fun
  | [d1, d2, d3] => { results := [.lit (.bool true)], args := [d1, d2, d3] }
  | _ => none }
def keytreeKeepsRow : OpenClaim := { program := "ytblphhclfloodaa", sum := "5a5e7f3548299a728a07ab0951bf1e273923e6c2f214e109b0d8da5ff41b5fce", func := "erewhile/erewhilelaw06.KeytreeKeeps", spec := "keytreeKeeps", inPlace := ["slices.overlaps[erewhile/keytree.Held]"], unfollowed := true, recurses := true, apart := false }
def KeytreeKeepsSaid : Prop := keytreeKeepsRow.holds Try.pinned (OpenSpec.ofChange keytreeKeepsSpec)

/-- ITS FALSE NEIGHBOUR: 'it returns false'. Refute it at one input. -/
def keytreeKeepsWrong : ChangeSpec := { name := "keytreeKeeps", fn := fun _ => fun
  | [d1, d2, d3] => { results := [.lit (.bool false)], args := [d1, d2, d3] }
  | _ => none }
def KeytreeKeepsWrongFalsely : Prop := keytreeKeepsRow.holds Try.pinned (OpenSpec.ofChange keytreeKeepsWrong)

/-- 'erewhilelaw06.KeytreeFrom': WHATEVER THE INPUT: true; the input reads as it did. -/
def keytreeFromSpec : ChangeSpec := { name := "keytreeFrom", fn := fun _ => fun
  | [d1, d2, d3] => { results := [.lit (.bool true)], args := [d1, d2, d3] }
  | _ => none }
def keytreeFromRow : OpenClaim := { program := "ytblphhclfloodaa", sum := "5a5e7f3548299a728a07ab0951bf1e273923e6c2f214e109b0d8da5ff41b5fce", func := "erewhile/erewhilelaw06.KeytreeFrom", spec := "keytreeFrom", inPlace := ["slices.overlaps[erewhile/keytree.Held]"], unfollowed := true, recurses := true, apart := false }
def KeytreeFromSaid : Prop := keytreeFromRow.holds Try.pinned (OpenSpec.ofChange keytreeFromSpec)

/-- ITS FALSE NEIGHBOUR: 'it returns false'. Refute it at one input. -/
def keytreeFromWrong : ChangeSpec := { name := "keytreeFrom", fn := fun _ => fun
  | [d1, d2, d3] => { results := [.lit (.bool false)], args := [d1, d2, d3] }
  | _ => none }
def KeytreeFromWrongFalsely : Prop := keytreeFromRow.holds Try.pinned (OpenSpec.ofChange keytreeFromWrong)

/-- 'erewhilelaw06.KeytreePart': WHATEVER THE INPUT: true; the input reads as it did. -/
def keytreePartSpec : ChangeSpec := { name := "keytreePart", fn := fun _ => fun
  | [d1, d2, d3, d4] => { results := [.lit (.bool true)], args := [d1, d2, d3, d4] }
  | _ => none }
def keytreePartRow : OpenClaim := { program := "ytblphhclfloodaa", sum := "5a5e7f3548299a728a07ab0951bf1e273923e6c2f214e109b0d8da5ff41b5fce", func := "erewhile/erewhilelaw06.KeytreePart", spec := "keytreePart", inPlace := ["slices.overlaps[erewhile/keytree.Held]"], unfollowed := true, recurses := true, apart := false }
def KeytreePartSaid : Prop := keytreePartRow.holds Try.pinned (OpenSpec.ofChange keytreePartSpec)

/-- ITS FALSE NEIGHBOUR: 'it returns false'. Refute it at one input. -/
def keytreePartWrong : ChangeSpec := { name := "keytreePart", fn := fun _ => fun
  | [d1, d2, d3, d4] => { results := [.lit (.bool false)], args := [d1, d2, d3, d4] }
  | _ => none }
def KeytreePartWrongFalsely : Prop := keytreePartRow.holds Try.pinned (OpenSpec.ofChange keytreePartWrong)

/-- 'erewhilelaw06.KeytreeHeld': WHATEVER THE INPUT: true; the input reads as it did. -/
def keytreeHeldSpec : ChangeSpec := { name := "keytreeHeld", fn := fun _ => fun
  | [d1, d2, d3] => { results := [.lit (.bool true)], args := [d1, d2, d3] }
  | _ => none }
def keytreeHeldRow : OpenClaim := { program := "ytblphhclfloodaa", sum := "5a5e7f3548299a728a07ab0951bf1e273923e6c2f214e109b0d8da5ff41b5fce", func := "erewhile/erewhilelaw06.KeytreeHeld", spec := "keytreeHeld", inPlace := ["slices.overlaps[erewhile/keytree.Held]"], unfollowed := true, recurses := true, apart := false }
def KeytreeHeldSaid : Prop := keytreeHeldRow.holds Try.pinned (OpenSpec.ofChange keytreeHeldSpec)

/-- ITS FALSE NEIGHBOUR: 'it returns false'. Refute it at one input. -/
def keytreeHeldWrong : ChangeSpec := { name := "keytreeHeld", fn := fun _ => fun
  | [d1, d2, d3] => { results := [.lit (.bool false)], args := [d1, d2, d3] }
  | _ => none }
def KeytreeHeldWrongFalsely : Prop := keytreeHeldRow.holds Try.pinned (OpenSpec.ofChange keytreeHeldWrong)

/-- 'erewhilelaw06.KeytreeNone': WHATEVER THE INPUT: true; the input reads as it did. -/
def keytreeNoneSpec : ChangeSpec := { name := "keytreeNone", fn := fun _ => fun
  | [d1, d2] => { results := [.lit (.bool true)], args := [d1, d2] }
  | _ => none }
def keytreeNoneRow : OpenClaim := { program := "ytblphhclfloodaa", sum := "5a5e7f3548299a728a07ab0951bf1e273923e6c2f214e109b0d8da5ff41b5fce", func := "erewhile/erewhilelaw06.KeytreeNone", spec := "keytreeNone", inPlace := ["slices.overlaps[erewhile/keytree.Held]"], unfollowed := true, recurses := true, apart := false }
def KeytreeNoneSaid : Prop := keytreeNoneRow.holds Try.pinned (OpenSpec.ofChange keytreeNoneSpec)

/-- ITS FALSE NEIGHBOUR: 'it returns false'. Refute it at one input. -/
def keytreeNoneWrong : ChangeSpec := { name := "keytreeNone", fn := fun _ => fun
  | [d1, d2] => { results := [.lit (.bool false)], args := [d1, d2] }
  | _ => none }
def KeytreeNoneWrongFalsely : Prop := keytreeNoneRow.holds Try.pinned (OpenSpec.ofChange keytreeNoneWrong)

/- THE SECOND FORM. 'bulk': how many values and letters a reading holds, each counted each time it is reached (what is shared counts as often as it is met; a slice's spare places count too). A statement '..UptoSaid' is the law's where the arguments, and the package variables that the reading takes, are together of bulk at most 1048576: NARROWER than '..Said'. Prove '..Said' where nothing that the law and all that it calls make is longer than what came in: it says more and counts as full. Else prove '..UptoSaid'. A law counts once. -/
mutual
def uptoBulk {H : Type} : DataW H → Nat
  | .lit (.string bytes) => bytes.length + 1
  | .lit _ => 1
  | .nil => 1
  | .ptr d => uptoBulk d + 1
  | .slice elems spare => uptoBulkAll elems + uptoBulkAll spare + 1
  | .agg parts => uptoBulkAll parts + 1
  | .iface _ d => uptoBulk d + 1
  | .map entries => uptoBulkEntries entries + 1
  | .held _ => 1
def uptoBulkAll {H : Type} : List (DataW H) → Nat
  | [] => 0
  | d :: r => uptoBulk d + uptoBulkAll r
def uptoBulkEntries {H : Type} : List (Lit × DataW H) → Nat
  | [] => 0
  | x :: r => uptoBulkEntry x + uptoBulkEntries r
def uptoBulkEntry {H : Type} : Lit × DataW H → Nat
  | (.string bytes, d) => bytes.length + uptoBulk d + 1
  | (_, d) => uptoBulk d + 1
 end
def uptoSmall : (H : Type) → List (DataW H) → Bool := fun _ ds => decide (uptoBulkAll ds ≤ 1048576)
def OpenSpec.upto (s : _root_.Go.ChangeSpec) : _root_.Go.OpenSpec := { _root_.Go.OpenSpec.ofChange s with cond := some uptoSmall }

/-- 'erewhilelaw06.KeytreeOrder', WHERE WHAT IT READS IS OF BULK AT MOST 1048576: true; the input reads as it did. -/
def keytreeOrderUptoRow : OpenClaim := { program := "ytblphhclfloodaa", sum := "5a5e7f3548299a728a07ab0951bf1e273923e6c2f214e109b0d8da5ff41b5fce", func := "erewhile/erewhilelaw06.KeytreeOrder", spec := "keytreeOrder", inPlace := ["slices.overlaps[erewhile/keytree.Held]"], unfollowed := true, recurses := true, apart := false, narrowed := true }
def KeytreeOrderUptoSaid : Prop := keytreeOrderUptoRow.holds Try.pinned (OpenSpec.upto keytreeOrderSpec)

/-- 'erewhilelaw06.KeytreeClear', WHERE WHAT IT READS IS OF BULK AT MOST 1048576: true; the input reads as it did. -/
def keytreeClearUptoRow : OpenClaim := { program := "ytblphhclfloodaa", sum := "5a5e7f3548299a728a07ab0951bf1e273923e6c2f214e109b0d8da5ff41b5fce", func := "erewhile/erewhilelaw06.KeytreeClear", spec := "keytreeClear", inPlace := ["slices.overlaps[erewhile/keytree.Held]"], unfollowed := true, recurses := true, apart := false, narrowed := true }
def KeytreeClearUptoSaid : Prop := keytreeClearUptoRow.holds Try.pinned (OpenSpec.upto keytreeClearSpec)

/-- 'erewhilelaw06.KeytreeSplit', WHERE WHAT IT READS IS OF BULK AT MOST 1048576: true; the input reads as it did. -/
def keytreeSplitUptoRow : OpenClaim := { program := "ytblphhclfloodaa", sum := "5a5e7f3548299a728a07ab0951bf1e273923e6c2f214e109b0d8da5ff41b5fce", func := "erewhile/erewhilelaw06.KeytreeSplit", spec := "keytreeSplit", inPlace := ["slices.overlaps[erewhile/keytree.Held]"], unfollowed := true, recurses := true, apart := false, narrowed := true }
def KeytreeSplitUptoSaid : Prop := keytreeSplitUptoRow.holds Try.pinned (OpenSpec.upto keytreeSplitSpec)

/-- 'erewhilelaw06.KeytreePlays', WHERE WHAT IT READS IS OF BULK AT MOST 1048576: true; the input reads as it did. -/
def keytreePlaysUptoRow : OpenClaim := { program := "ytblphhclfloodaa", sum := "5a5e7f3548299a728a07ab0951bf1e273923e6c2f214e109b0d8da5ff41b5fce", func := "erewhile/erewhilelaw06.KeytreePlays", spec := "keytreePlays", inPlace := ["slices.overlaps[erewhile/keytree.Held]"], unfollowed := true, recurses := true, apart := false, narrowed := true }
def KeytreePlaysUptoSaid : Prop := keytreePlaysUptoRow.holds Try.pinned (OpenSpec.upto keytreePlaysSpec)

/-- 'erewhilelaw06.KeytreeKeeps', WHERE WHAT IT READS IS OF BULK AT MOST 1048576: true; the input reads as it did. -/
def keytreeKeepsUptoRow : OpenClaim := { program := "ytblphhclfloodaa", sum := "5a5e7f3548299a728a07ab0951bf1e273923e6c2f214e109b0d8da5ff41b5fce", func := "erewhile/erewhilelaw06.KeytreeKeeps", spec := "keytreeKeeps", inPlace := ["slices.overlaps[erewhile/keytree.Held]"], unfollowed := true, recurses := true, apart := false, narrowed := true }
def KeytreeKeepsUptoSaid : Prop := keytreeKeepsUptoRow.holds Try.pinned (OpenSpec.upto keytreeKeepsSpec)

/-- 'erewhilelaw06.KeytreeFrom', WHERE WHAT IT READS IS OF BULK AT MOST 1048576: true; the input reads as it did. -/
def keytreeFromUptoRow : OpenClaim := { program := "ytblphhclfloodaa", sum := "5a5e7f3548299a728a07ab0951bf1e273923e6c2f214e109b0d8da5ff41b5fce", func := "erewhile/erewhilelaw06.KeytreeFrom", spec := "keytreeFrom", inPlace := ["slices.overlaps[erewhile/keytree.Held]"], unfollowed := true, recurses := true, apart := false, narrowed := true }
def KeytreeFromUptoSaid : Prop := keytreeFromUptoRow.holds Try.pinned (OpenSpec.upto keytreeFromSpec)

/-- 'erewhilelaw06.KeytreePart', WHERE WHAT IT READS IS OF BULK AT MOST 1048576: true; the input reads as it did. -/
def keytreePartUptoRow : OpenClaim := { program := "ytblphhclfloodaa", sum := "5a5e7f3548299a728a07ab0951bf1e273923e6c2f214e109b0d8da5ff41b5fce", func := "erewhile/erewhilelaw06.KeytreePart", spec := "keytreePart", inPlace := ["slices.overlaps[erewhile/keytree.Held]"], unfollowed := true, recurses := true, apart := false, narrowed := true }
def KeytreePartUptoSaid : Prop := keytreePartUptoRow.holds Try.pinned (OpenSpec.upto keytreePartSpec)

/-- 'erewhilelaw06.KeytreeHeld', WHERE WHAT IT READS IS OF BULK AT MOST 1048576: true; the input reads as it did. -/
def keytreeHeldUptoRow : OpenClaim := { program := "ytblphhclfloodaa", sum := "5a5e7f3548299a728a07ab0951bf1e273923e6c2f214e109b0d8da5ff41b5fce", func := "erewhile/erewhilelaw06.KeytreeHeld", spec := "keytreeHeld", inPlace := ["slices.overlaps[erewhile/keytree.Held]"], unfollowed := true, recurses := true, apart := false, narrowed := true }
def KeytreeHeldUptoSaid : Prop := keytreeHeldUptoRow.holds Try.pinned (OpenSpec.upto keytreeHeldSpec)

/-- 'erewhilelaw06.KeytreeNone', WHERE WHAT IT READS IS OF BULK AT MOST 1048576: true; the input reads as it did. -/
def keytreeNoneUptoRow : OpenClaim := { program := "ytblphhclfloodaa", sum := "5a5e7f3548299a728a07ab0951bf1e273923e6c2f214e109b0d8da5ff41b5fce", func := "erewhile/erewhilelaw06.KeytreeNone", spec := "keytreeNone", inPlace := ["slices.overlaps[erewhile/keytree.Held]"], unfollowed := true, recurses := true, apart := false, narrowed := true }
def KeytreeNoneUptoSaid : Prop := keytreeNoneUptoRow.holds Try.pinned (OpenSpec.upto keytreeNoneSpec)

end Rows
end Go.Proofs.Ytblphhclfloodaa
