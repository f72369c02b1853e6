/-
  NARROWER THAN 'FOR EVERY INPUT', by the rows' own cells (each row's printed sentence says how): KeycodeEncodes: laid · KeycodeDecodes: laid · KeycodeCut: laid · KeycodeSpoilt: laid · KeycodeOrder: laid · KeycodeAlike: laid · KeycodeFew: laid · KeycodeBack: laid.
  DERIVED. THE GIVEN ROWS OF THIS SEAT. 8 by the template 'for every input the law returns true; each argument reads behind the call as it read before'; 0 by the template 'total and deterministic' (their statements: YtblphhclfloodaaDoorTotals.lean).
  GIVEN WITH THE SEED: the statements are not yours to turn. If you find one false, say at which input.
  Laid BY PROGRAM, IN A SANDBOX (cutbox-rows.mjs): the forced cells as the released guide's own fill.sh prints them over the translation 503378fab6f70797… (all of the seat's roots in one cut). By AI agents, Wed Nov 11 2026. No macro, syntax, notation, axiom, sorry.
-/
import Derived.Test.YtblphhclfloodaaDoorChecked
import GoSem.Claim
import GoSem.ClaimJoined
import GoSem.ClaimMapViews
import Derived.JoinedTies
import Derived.KernelRfl
namespace Go.Proofs.YtblphhclfloodaaDoor
/- THE CELL 'sum', in the pinned program and in every row, IS THE sha256 OF THE DUMP (.gsa) THAT YtblphhclfloodaaDoorProg.lean LOADS. Nothing in Lean hashes anything: it is a label: what it is worth is what the hold of that sum in a sandbox is worth. -/
noncomputable def Tryd.pinned : Pinned := { name := "ytblphhclfloodaadoor", sum := "503378fab6f707971d21e65b408e9979cf735e03ef908ab6e2641f51e260026d", checked := Tryd.checked }
namespace Rows
def none {H : Type} : Left H := { results := [], args := [] }

/- WHAT THE LISTED PACKAGE-LEVEL VARIABLES READ AS WHEN THE CALL BEGINS. Each datum BY PROGRAM (the guide's laid-datum.mjs) off the statement by which the dump's own 'gosem.cut.vars' lays the variable. In a bare row this is a premise. The card (YtblphhclfloodaaDoorCards.lean) ties it to the program's text. -/
def laid_math_bits_deBruijn64tab {H : Type} : DataW H := .agg [.lit (.int .u8 0), .lit (.int .u8 1), .lit (.int .u8 56), .lit (.int .u8 2), .lit (.int .u8 57), .lit (.int .u8 49), .lit (.int .u8 28), .lit (.int .u8 3), .lit (.int .u8 61), .lit (.int .u8 58), .lit (.int .u8 42), .lit (.int .u8 50), .lit (.int .u8 38), .lit (.int .u8 29), .lit (.int .u8 17), .lit (.int .u8 4), .lit (.int .u8 62), .lit (.int .u8 47), .lit (.int .u8 59), .lit (.int .u8 36), .lit (.int .u8 45), .lit (.int .u8 43), .lit (.int .u8 51), .lit (.int .u8 22), .lit (.int .u8 53), .lit (.int .u8 39), .lit (.int .u8 33), .lit (.int .u8 30), .lit (.int .u8 24), .lit (.int .u8 18), .lit (.int .u8 12), .lit (.int .u8 5), .lit (.int .u8 63), .lit (.int .u8 55), .lit (.int .u8 48), .lit (.int .u8 27), .lit (.int .u8 60), .lit (.int .u8 41), .lit (.int .u8 37), .lit (.int .u8 16), .lit (.int .u8 46), .lit (.int .u8 35), .lit (.int .u8 44), .lit (.int .u8 21), .lit (.int .u8 52), .lit (.int .u8 32), .lit (.int .u8 23), .lit (.int .u8 11), .lit (.int .u8 54), .lit (.int .u8 26), .lit (.int .u8 40), .lit (.int .u8 15), .lit (.int .u8 34), .lit (.int .u8 20), .lit (.int .u8 31), .lit (.int .u8 10), .lit (.int .u8 25), .lit (.int .u8 14), .lit (.int .u8 19), .lit (.int .u8 9), .lit (.int .u8 13), .lit (.int .u8 8), .lit (.int .u8 7), .lit (.int .u8 6)]

/-- 'erewhilelaw07.KeycodeEncodes': WHATEVER THE INPUT: true; the input reads as it did. -/
def keycodeEncodesSpec : ChangeSpec := { name := "keycodeEncodes", fn := fun _ => fun
  | [d] => { results := [.lit (.bool true)], args := [d] }
  | _ => none }
def keycodeEncodesRow : OpenClaim := { program := "ytblphhclfloodaadoor", sum := "503378fab6f707971d21e65b408e9979cf735e03ef908ab6e2641f51e260026d", func := "erewhile/erewhilelaw07.KeycodeEncodes", spec := "keycodeEncodes", unfollowed := true, recurses := true, named := ["math/bits.deBruijn64tab"], apart := false, laid := [("math/bits.deBruijn64tab", laid_math_bits_deBruijn64tab)] }
def KeycodeEncodesSaid : Prop := keycodeEncodesRow.holds Tryd.pinned (OpenSpec.ofChange keycodeEncodesSpec)

/-- ITS FALSE NEIGHBOUR: 'it returns false'. Refute it at one input. -/
def keycodeEncodesWrong : ChangeSpec := { name := "keycodeEncodes", fn := fun _ => fun
  | [d] => { results := [.lit (.bool false)], args := [d] }
  | _ => none }
def KeycodeEncodesWrongFalsely : Prop := keycodeEncodesRow.holds Tryd.pinned (OpenSpec.ofChange keycodeEncodesWrong)

/-- 'erewhilelaw07.KeycodeDecodes': WHATEVER THE INPUT: true; the input reads as it did. -/
def keycodeDecodesSpec : ChangeSpec := { name := "keycodeDecodes", fn := fun _ => fun
  | [d] => { results := [.lit (.bool true)], args := [d] }
  | _ => none }
def keycodeDecodesRow : OpenClaim := { program := "ytblphhclfloodaadoor", sum := "503378fab6f707971d21e65b408e9979cf735e03ef908ab6e2641f51e260026d", func := "erewhile/erewhilelaw07.KeycodeDecodes", spec := "keycodeDecodes", unfollowed := true, recurses := true, named := ["math/bits.deBruijn64tab"], apart := false, laid := [("math/bits.deBruijn64tab", laid_math_bits_deBruijn64tab)] }
def KeycodeDecodesSaid : Prop := keycodeDecodesRow.holds Tryd.pinned (OpenSpec.ofChange keycodeDecodesSpec)

/-- ITS FALSE NEIGHBOUR: 'it returns false'. Refute it at one input. -/
def keycodeDecodesWrong : ChangeSpec := { name := "keycodeDecodes", fn := fun _ => fun
  | [d] => { results := [.lit (.bool false)], args := [d] }
  | _ => none }
def KeycodeDecodesWrongFalsely : Prop := keycodeDecodesRow.holds Tryd.pinned (OpenSpec.ofChange keycodeDecodesWrong)

/-- 'erewhilelaw07.KeycodeCut': WHATEVER THE INPUT: true; the input reads as it did. -/
def keycodeCutSpec : ChangeSpec := { name := "keycodeCut", fn := fun _ => fun
  | [d1, d2, d3, d4] => { results := [.lit (.bool true)], args := [d1, d2, d3, d4] }
  | _ => none }
def keycodeCutRow : OpenClaim := { program := "ytblphhclfloodaadoor", sum := "503378fab6f707971d21e65b408e9979cf735e03ef908ab6e2641f51e260026d", func := "erewhile/erewhilelaw07.KeycodeCut", spec := "keycodeCut", inPlace := ["slices.overlaps[erewhile/keytree.Held]"], unfollowed := true, recurses := true, named := ["math/bits.deBruijn64tab"], apart := false, laid := [("math/bits.deBruijn64tab", laid_math_bits_deBruijn64tab)] }
def KeycodeCutSaid : Prop := keycodeCutRow.holds Tryd.pinned (OpenSpec.ofChange keycodeCutSpec)

/-- ITS FALSE NEIGHBOUR: 'it returns false'. Refute it at one input. -/
def keycodeCutWrong : ChangeSpec := { name := "keycodeCut", fn := fun _ => fun
  | [d1, d2, d3, d4] => { results := [.lit (.bool false)], args := [d1, d2, d3, d4] }
  | _ => none }
def KeycodeCutWrongFalsely : Prop := keycodeCutRow.holds Tryd.pinned (OpenSpec.ofChange keycodeCutWrong)

/-- 'erewhilelaw07.KeycodeSpoilt': WHATEVER THE INPUT: true; the input reads as it did. -/
def keycodeSpoiltSpec : ChangeSpec := { name := "keycodeSpoilt", fn := fun _ => fun
  | [d1, d2, d3, d4] => { results := [.lit (.bool true)], args := [d1, d2, d3, d4] }
  | _ => none }
def keycodeSpoiltRow : OpenClaim := { program := "ytblphhclfloodaadoor", sum := "503378fab6f707971d21e65b408e9979cf735e03ef908ab6e2641f51e260026d", func := "erewhile/erewhilelaw07.KeycodeSpoilt", spec := "keycodeSpoilt", inPlace := ["slices.overlaps[erewhile/keytree.Held]"], unfollowed := true, recurses := true, named := ["math/bits.deBruijn64tab"], apart := false, laid := [("math/bits.deBruijn64tab", laid_math_bits_deBruijn64tab)] }
def KeycodeSpoiltSaid : Prop := keycodeSpoiltRow.holds Tryd.pinned (OpenSpec.ofChange keycodeSpoiltSpec)

/-- ITS FALSE NEIGHBOUR: 'it returns false'. Refute it at one input. -/
def keycodeSpoiltWrong : ChangeSpec := { name := "keycodeSpoilt", fn := fun _ => fun
  | [d1, d2, d3, d4] => { results := [.lit (.bool false)], args := [d1, d2, d3, d4] }
  | _ => none }
def KeycodeSpoiltWrongFalsely : Prop := keycodeSpoiltRow.holds Tryd.pinned (OpenSpec.ofChange keycodeSpoiltWrong)

/-- 'erewhilelaw07.KeycodeOrder': WHATEVER THE INPUT: true; the input reads as it did. -/
def keycodeOrderSpec : ChangeSpec := { name := "keycodeOrder", fn := fun _ => fun
  | [d1, d2, d3] => { results := [.lit (.bool true)], args := [d1, d2, d3] }
  | _ => none }
def keycodeOrderRow : OpenClaim := { program := "ytblphhclfloodaadoor", sum := "503378fab6f707971d21e65b408e9979cf735e03ef908ab6e2641f51e260026d", func := "erewhile/erewhilelaw07.KeycodeOrder", spec := "keycodeOrder", inPlace := ["slices.overlaps[erewhile/keytree.Held]"], unfollowed := true, recurses := true, named := ["math/bits.deBruijn64tab"], apart := false, laid := [("math/bits.deBruijn64tab", laid_math_bits_deBruijn64tab)] }
def KeycodeOrderSaid : Prop := keycodeOrderRow.holds Tryd.pinned (OpenSpec.ofChange keycodeOrderSpec)

/-- ITS FALSE NEIGHBOUR: 'it returns false'. Refute it at one input. -/
def keycodeOrderWrong : ChangeSpec := { name := "keycodeOrder", fn := fun _ => fun
  | [d1, d2, d3] => { results := [.lit (.bool false)], args := [d1, d2, d3] }
  | _ => none }
def KeycodeOrderWrongFalsely : Prop := keycodeOrderRow.holds Tryd.pinned (OpenSpec.ofChange keycodeOrderWrong)

/-- 'erewhilelaw07.KeycodeAlike': WHATEVER THE INPUT: true; the input reads as it did. -/
def keycodeAlikeSpec : ChangeSpec := { name := "keycodeAlike", fn := fun _ => fun
  | [d1, d2, d3, d4] => { results := [.lit (.bool true)], args := [d1, d2, d3, d4] }
  | _ => none }
def keycodeAlikeRow : OpenClaim := { program := "ytblphhclfloodaadoor", sum := "503378fab6f707971d21e65b408e9979cf735e03ef908ab6e2641f51e260026d", func := "erewhile/erewhilelaw07.KeycodeAlike", spec := "keycodeAlike", inPlace := ["slices.overlaps[erewhile/keytree.Held]"], unfollowed := true, recurses := true, named := ["math/bits.deBruijn64tab"], apart := false, laid := [("math/bits.deBruijn64tab", laid_math_bits_deBruijn64tab)] }
def KeycodeAlikeSaid : Prop := keycodeAlikeRow.holds Tryd.pinned (OpenSpec.ofChange keycodeAlikeSpec)

/-- ITS FALSE NEIGHBOUR: 'it returns false'. Refute it at one input. -/
def keycodeAlikeWrong : ChangeSpec := { name := "keycodeAlike", fn := fun _ => fun
  | [d1, d2, d3, d4] => { results := [.lit (.bool false)], args := [d1, d2, d3, d4] }
  | _ => none }
def KeycodeAlikeWrongFalsely : Prop := keycodeAlikeRow.holds Tryd.pinned (OpenSpec.ofChange keycodeAlikeWrong)

/-- 'erewhilelaw07.KeycodeFew': WHATEVER THE INPUT: true; the input reads as it did. -/
def keycodeFewSpec : ChangeSpec := { name := "keycodeFew", fn := fun _ => fun
  | [d1, d2] => { results := [.lit (.bool true)], args := [d1, d2] }
  | _ => none }
def keycodeFewRow : OpenClaim := { program := "ytblphhclfloodaadoor", sum := "503378fab6f707971d21e65b408e9979cf735e03ef908ab6e2641f51e260026d", func := "erewhile/erewhilelaw07.KeycodeFew", spec := "keycodeFew", inPlace := ["slices.overlaps[erewhile/keytree.Held]"], unfollowed := true, recurses := true, named := ["math/bits.deBruijn64tab"], apart := false, laid := [("math/bits.deBruijn64tab", laid_math_bits_deBruijn64tab)] }
def KeycodeFewSaid : Prop := keycodeFewRow.holds Tryd.pinned (OpenSpec.ofChange keycodeFewSpec)

/-- ITS FALSE NEIGHBOUR: 'it returns false'. Refute it at one input. -/
def keycodeFewWrong : ChangeSpec := { name := "keycodeFew", fn := fun _ => fun
  | [d1, d2] => { results := [.lit (.bool false)], args := [d1, d2] }
  | _ => none }
def KeycodeFewWrongFalsely : Prop := keycodeFewRow.holds Tryd.pinned (OpenSpec.ofChange keycodeFewWrong)

/-- 'erewhilelaw07.KeycodeBack': WHATEVER THE INPUT: true; the input reads as it did. -/
def keycodeBackSpec : ChangeSpec := { name := "keycodeBack", fn := fun _ => fun
  | [d1, d2, d3] => { results := [.lit (.bool true)], args := [d1, d2, d3] }
  | _ => none }
def keycodeBackRow : OpenClaim := { program := "ytblphhclfloodaadoor", sum := "503378fab6f707971d21e65b408e9979cf735e03ef908ab6e2641f51e260026d", func := "erewhile/erewhilelaw07.KeycodeBack", spec := "keycodeBack", inPlace := ["slices.overlaps[erewhile/keytree.Held]"], unfollowed := true, recurses := true, named := ["math/bits.deBruijn64tab"], apart := false, laid := [("math/bits.deBruijn64tab", laid_math_bits_deBruijn64tab)] }
def KeycodeBackSaid : Prop := keycodeBackRow.holds Tryd.pinned (OpenSpec.ofChange keycodeBackSpec)

/-- ITS FALSE NEIGHBOUR: 'it returns false'. Refute it at one input. -/
def keycodeBackWrong : ChangeSpec := { name := "keycodeBack", fn := fun _ => fun
  | [d1, d2, d3] => { results := [.lit (.bool false)], args := [d1, d2, d3] }
  | _ => none }
def KeycodeBackWrongFalsely : Prop := keycodeBackRow.holds Tryd.pinned (OpenSpec.ofChange keycodeBackWrong)

/- THE SECOND FORM. 'bulk': how many values and letters a reading holds, each counted each time it is reached (what is shared counts as often as it is met; a slice's spare places count too). A statement '..UptoSaid' is the law's where the arguments, and the package variables that the reading takes, are together of bulk at most 1048576: NARROWER than '..Said'. Prove '..Said' where nothing that the law and all that it calls make is longer than what came in: it says more and counts as full. Else prove '..UptoSaid'. A law counts once. -/
mutual
def uptoBulk {H : Type} : DataW H → Nat
  | .lit (.string bytes) => bytes.length + 1
  | .lit _ => 1
  | .nil => 1
  | .ptr d => uptoBulk d + 1
  | .slice elems spare => uptoBulkAll elems + uptoBulkAll spare + 1
  | .agg parts => uptoBulkAll parts + 1
  | .iface _ d => uptoBulk d + 1
  | .map entries => uptoBulkEntries entries + 1
  | .held _ => 1
def uptoBulkAll {H : Type} : List (DataW H) → Nat
  | [] => 0
  | d :: r => uptoBulk d + uptoBulkAll r
def uptoBulkEntries {H : Type} : List (Lit × DataW H) → Nat
  | [] => 0
  | x :: r => uptoBulkEntry x + uptoBulkEntries r
def uptoBulkEntry {H : Type} : Lit × DataW H → Nat
  | (.string bytes, d) => bytes.length + uptoBulk d + 1
  | (_, d) => uptoBulk d + 1
 end
def uptoSmall : (H : Type) → List (DataW H) → Bool := fun _ ds => decide (uptoBulkAll ds ≤ 1048576)
def OpenSpec.upto (s : _root_.Go.ChangeSpec) : _root_.Go.OpenSpec := { _root_.Go.OpenSpec.ofChange s with cond := some uptoSmall }

/-- 'erewhilelaw07.KeycodeEncodes', WHERE WHAT IT READS IS OF BULK AT MOST 1048576: true; the input reads as it did. -/
def keycodeEncodesUptoRow : OpenClaim := { program := "ytblphhclfloodaadoor", sum := "503378fab6f707971d21e65b408e9979cf735e03ef908ab6e2641f51e260026d", func := "erewhile/erewhilelaw07.KeycodeEncodes", spec := "keycodeEncodes", unfollowed := true, recurses := true, named := ["math/bits.deBruijn64tab"], apart := false, laid := [("math/bits.deBruijn64tab", laid_math_bits_deBruijn64tab)], narrowed := true }
def KeycodeEncodesUptoSaid : Prop := keycodeEncodesUptoRow.holds Tryd.pinned (OpenSpec.upto keycodeEncodesSpec)

/-- 'erewhilelaw07.KeycodeDecodes', WHERE WHAT IT READS IS OF BULK AT MOST 1048576: true; the input reads as it did. -/
def keycodeDecodesUptoRow : OpenClaim := { program := "ytblphhclfloodaadoor", sum := "503378fab6f707971d21e65b408e9979cf735e03ef908ab6e2641f51e260026d", func := "erewhile/erewhilelaw07.KeycodeDecodes", spec := "keycodeDecodes", unfollowed := true, recurses := true, named := ["math/bits.deBruijn64tab"], apart := false, laid := [("math/bits.deBruijn64tab", laid_math_bits_deBruijn64tab)], narrowed := true }
def KeycodeDecodesUptoSaid : Prop := keycodeDecodesUptoRow.holds Tryd.pinned (OpenSpec.upto keycodeDecodesSpec)

/-- 'erewhilelaw07.KeycodeCut', WHERE WHAT IT READS IS OF BULK AT MOST 1048576: true; the input reads as it did. -/
def keycodeCutUptoRow : OpenClaim := { program := "ytblphhclfloodaadoor", sum := "503378fab6f707971d21e65b408e9979cf735e03ef908ab6e2641f51e260026d", func := "erewhile/erewhilelaw07.KeycodeCut", spec := "keycodeCut", inPlace := ["slices.overlaps[erewhile/keytree.Held]"], unfollowed := true, recurses := true, named := ["math/bits.deBruijn64tab"], apart := false, laid := [("math/bits.deBruijn64tab", laid_math_bits_deBruijn64tab)], narrowed := true }
def KeycodeCutUptoSaid : Prop := keycodeCutUptoRow.holds Tryd.pinned (OpenSpec.upto keycodeCutSpec)

/-- 'erewhilelaw07.KeycodeSpoilt', WHERE WHAT IT READS IS OF BULK AT MOST 1048576: true; the input reads as it did. -/
def keycodeSpoiltUptoRow : OpenClaim := { program := "ytblphhclfloodaadoor", sum := "503378fab6f707971d21e65b408e9979cf735e03ef908ab6e2641f51e260026d", func := "erewhile/erewhilelaw07.KeycodeSpoilt", spec := "keycodeSpoilt", inPlace := ["slices.overlaps[erewhile/keytree.Held]"], unfollowed := true, recurses := true, named := ["math/bits.deBruijn64tab"], apart := false, laid := [("math/bits.deBruijn64tab", laid_math_bits_deBruijn64tab)], narrowed := true }
def KeycodeSpoiltUptoSaid : Prop := keycodeSpoiltUptoRow.holds Tryd.pinned (OpenSpec.upto keycodeSpoiltSpec)

/-- 'erewhilelaw07.KeycodeOrder', WHERE WHAT IT READS IS OF BULK AT MOST 1048576: true; the input reads as it did. -/
def keycodeOrderUptoRow : OpenClaim := { program := "ytblphhclfloodaadoor", sum := "503378fab6f707971d21e65b408e9979cf735e03ef908ab6e2641f51e260026d", func := "erewhile/erewhilelaw07.KeycodeOrder", spec := "keycodeOrder", inPlace := ["slices.overlaps[erewhile/keytree.Held]"], unfollowed := true, recurses := true, named := ["math/bits.deBruijn64tab"], apart := false, laid := [("math/bits.deBruijn64tab", laid_math_bits_deBruijn64tab)], narrowed := true }
def KeycodeOrderUptoSaid : Prop := keycodeOrderUptoRow.holds Tryd.pinned (OpenSpec.upto keycodeOrderSpec)

/-- 'erewhilelaw07.KeycodeAlike', WHERE WHAT IT READS IS OF BULK AT MOST 1048576: true; the input reads as it did. -/
def keycodeAlikeUptoRow : OpenClaim := { program := "ytblphhclfloodaadoor", sum := "503378fab6f707971d21e65b408e9979cf735e03ef908ab6e2641f51e260026d", func := "erewhile/erewhilelaw07.KeycodeAlike", spec := "keycodeAlike", inPlace := ["slices.overlaps[erewhile/keytree.Held]"], unfollowed := true, recurses := true, named := ["math/bits.deBruijn64tab"], apart := false, laid := [("math/bits.deBruijn64tab", laid_math_bits_deBruijn64tab)], narrowed := true }
def KeycodeAlikeUptoSaid : Prop := keycodeAlikeUptoRow.holds Tryd.pinned (OpenSpec.upto keycodeAlikeSpec)

/-- 'erewhilelaw07.KeycodeFew', WHERE WHAT IT READS IS OF BULK AT MOST 1048576: true; the input reads as it did. -/
def keycodeFewUptoRow : OpenClaim := { program := "ytblphhclfloodaadoor", sum := "503378fab6f707971d21e65b408e9979cf735e03ef908ab6e2641f51e260026d", func := "erewhile/erewhilelaw07.KeycodeFew", spec := "keycodeFew", inPlace := ["slices.overlaps[erewhile/keytree.Held]"], unfollowed := true, recurses := true, named := ["math/bits.deBruijn64tab"], apart := false, laid := [("math/bits.deBruijn64tab", laid_math_bits_deBruijn64tab)], narrowed := true }
def KeycodeFewUptoSaid : Prop := keycodeFewUptoRow.holds Tryd.pinned (OpenSpec.upto keycodeFewSpec)

/-- 'erewhilelaw07.KeycodeBack', WHERE WHAT IT READS IS OF BULK AT MOST 1048576: true; the input reads as it did. -/
def keycodeBackUptoRow : OpenClaim := { program := "ytblphhclfloodaadoor", sum := "503378fab6f707971d21e65b408e9979cf735e03ef908ab6e2641f51e260026d", func := "erewhile/erewhilelaw07.KeycodeBack", spec := "keycodeBack", inPlace := ["slices.overlaps[erewhile/keytree.Held]"], unfollowed := true, recurses := true, named := ["math/bits.deBruijn64tab"], apart := false, laid := [("math/bits.deBruijn64tab", laid_math_bits_deBruijn64tab)], narrowed := true }
def KeycodeBackUptoSaid : Prop := keycodeBackUptoRow.holds Tryd.pinned (OpenSpec.upto keycodeBackSpec)

end Rows
end Go.Proofs.YtblphhclfloodaaDoor
