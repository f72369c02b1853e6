/-
  No cell of these rows narrows 'for every input' (looked for: loops, veiled, ifaces, maps, wideKeys, modest, calm, conditions, laid).
  DERIVED. THE GIVEN ROWS OF THIS SEAT. 2 by the template 'for every input the law returns true; each argument reads behind the call as it read before'; 0 by the template 'total and deterministic' (their statements: YtihpeihlpgompaaTotals.lean).
  GIVEN WITH THE SEED: the statements are not yours to turn. If you find one false, say at which input.
  Laid BY PROGRAM, IN A SANDBOX (cutbox-rows.mjs): the forced cells as the released guide's own fill.sh prints them over the translation 7475f876655ffd5f… (all of the seat's roots in one cut). By AI agents, Wed Nov 11 2026. No macro, syntax, notation, axiom, sorry.
-/
import Derived.Test.YtihpeihlpgompaaChecked
import GoSem.Claim
import GoSem.ClaimJoined
import GoSem.ClaimMapViews
import Derived.JoinedTies
import Derived.KernelRfl
namespace Go.Proofs.Ytihpeihlpgompaa
/- THE CELL 'sum', in the pinned program and in every row, IS THE sha256 OF THE DUMP (.gsa) THAT YtihpeihlpgompaaProg.lean LOADS. Nothing in Lean hashes anything: it is a label: what it is worth is what the hold of that sum in a sandbox is worth. -/
noncomputable def Try.pinned : Pinned := { name := "ytihpeihlpgompaa", sum := "7475f876655ffd5f12ba508cef3fed82253ef8fc6d9b53426433e0a972916645", checked := Try.checked }
namespace Rows
def none {H : Type} : Left H := { results := [], args := [] }

/-- 'erewhilelaw17.RecoverOrders': WHATEVER THE INPUT: true; the input reads as it did. -/
def recoverOrdersSpec : ChangeSpec := { name := "recoverOrders", fn := fun _ => fun
  | [d] => { results := [.lit (.bool true)], args := [d] }
  | _ => none }
def recoverOrdersRow : OpenClaim := { program := "ytihpeihlpgompaa", sum := "7475f876655ffd5f12ba508cef3fed82253ef8fc6d9b53426433e0a972916645", func := "erewhile/erewhilelaw17.RecoverOrders", spec := "recoverOrders", unfollowed := true, recurses := true, apart := false }
def RecoverOrdersSaid : Prop := recoverOrdersRow.holds Try.pinned (OpenSpec.ofChange recoverOrdersSpec)

/-- ITS FALSE NEIGHBOUR: 'it returns false'. Refute it at one input. -/
def recoverOrdersWrong : ChangeSpec := { name := "recoverOrders", fn := fun _ => fun
  | [d] => { results := [.lit (.bool false)], args := [d] }
  | _ => none }
def RecoverOrdersWrongFalsely : Prop := recoverOrdersRow.holds Try.pinned (OpenSpec.ofChange recoverOrdersWrong)

/-- 'erewhilelaw17.RecoverParts': WHATEVER THE INPUT: true; the input reads as it did. -/
def recoverPartsSpec : ChangeSpec := { name := "recoverParts", fn := fun _ => fun
  | [d1, d2] => { results := [.lit (.bool true)], args := [d1, d2] }
  | _ => none }
def recoverPartsRow : OpenClaim := { program := "ytihpeihlpgompaa", sum := "7475f876655ffd5f12ba508cef3fed82253ef8fc6d9b53426433e0a972916645", func := "erewhile/erewhilelaw17.RecoverParts", spec := "recoverParts", unfollowed := true, recurses := true, apart := false }
def RecoverPartsSaid : Prop := recoverPartsRow.holds Try.pinned (OpenSpec.ofChange recoverPartsSpec)

/-- ITS FALSE NEIGHBOUR: 'it returns false'. Refute it at one input. -/
def recoverPartsWrong : ChangeSpec := { name := "recoverParts", fn := fun _ => fun
  | [d1, d2] => { results := [.lit (.bool false)], args := [d1, d2] }
  | _ => none }
def RecoverPartsWrongFalsely : Prop := recoverPartsRow.holds Try.pinned (OpenSpec.ofChange recoverPartsWrong)

/- THE SECOND FORM. 'bulk': how many values and letters a reading holds, each counted each time it is reached (what is shared counts as often as it is met; a slice's spare places count too). A statement '..UptoSaid' is the law's where the arguments, and the package variables that the reading takes, are together of bulk at most 1048576: NARROWER than '..Said'. Prove '..Said' where nothing that the law and all that it calls make is longer than what came in: it says more and counts as full. Else prove '..UptoSaid'. A law counts once. -/
mutual
def uptoBulk {H : Type} : DataW H → Nat
  | .lit (.string bytes) => bytes.length + 1
  | .lit _ => 1
  | .nil => 1
  | .ptr d => uptoBulk d + 1
  | .slice elems spare => uptoBulkAll elems + uptoBulkAll spare + 1
  | .agg parts => uptoBulkAll parts + 1
  | .iface _ d => uptoBulk d + 1
  | .map entries => uptoBulkEntries entries + 1
  | .held _ => 1
def uptoBulkAll {H : Type} : List (DataW H) → Nat
  | [] => 0
  | d :: r => uptoBulk d + uptoBulkAll r
def uptoBulkEntries {H : Type} : List (Lit × DataW H) → Nat
  | [] => 0
  | x :: r => uptoBulkEntry x + uptoBulkEntries r
def uptoBulkEntry {H : Type} : Lit × DataW H → Nat
  | (.string bytes, d) => bytes.length + uptoBulk d + 1
  | (_, d) => uptoBulk d + 1
 end
def uptoSmall : (H : Type) → List (DataW H) → Bool := fun _ ds => decide (uptoBulkAll ds ≤ 1048576)
def OpenSpec.upto (s : _root_.Go.ChangeSpec) : _root_.Go.OpenSpec := { _root_.Go.OpenSpec.ofChange s with cond := some uptoSmall }

/-- 'erewhilelaw17.RecoverOrders', WHERE WHAT IT READS IS OF BULK AT MOST 1048576: true; the input reads as it did. -/
def recoverOrdersUptoRow : OpenClaim := { program := "ytihpeihlpgompaa", sum := "7475f876655ffd5f12ba508cef3fed82253ef8fc6d9b53426433e0a972916645", func := "erewhile/erewhilelaw17.RecoverOrders", spec := "recoverOrders", unfollowed := true, recurses := true, apart := false, narrowed := true }
def RecoverOrdersUptoSaid : Prop := recoverOrdersUptoRow.holds Try.pinned (OpenSpec.upto recoverOrdersSpec)

/-- 'erewhilelaw17.RecoverParts', WHERE WHAT IT READS IS OF BULK AT MOST 1048576: true; the input reads as it did. -/
def recoverPartsUptoRow : OpenClaim := { program := "ytihpeihlpgompaa", sum := "7475f876655ffd5f12ba508cef3fed82253ef8fc6d9b53426433e0a972916645", func := "erewhile/erewhilelaw17.RecoverParts", spec := "recoverParts", unfollowed := true, recurses := true, apart := false, narrowed := true }
def RecoverPartsUptoSaid : Prop := recoverPartsUptoRow.holds Try.pinned (OpenSpec.upto recoverPartsSpec)

end Rows
end Go.Proofs.Ytihpeihlpgompaa
