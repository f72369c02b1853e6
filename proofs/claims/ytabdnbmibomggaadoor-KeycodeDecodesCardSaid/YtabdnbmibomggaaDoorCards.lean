/-
  DERIVED. GIVEN WITH THE SEED: THE CARDS: each row of YtabdnbmibomggaaDoorRows.lean that lists a variable, with what it lists TIED to the program's text (the seventh form; the later family's looks); each row that meets fmt, with fmt's text TOLD by the authors' own Lean function (tested against real Go, not proved from fmt's source: count such statements apart). THE CARD IS WHAT COUNTS. Prove the row's statement (the work); the ties are given (YtabdnbmibomggaaDoorTie.lean); close each card by the builder's one call (the guide's Derived/Test/ToyasCard.lean, 'card_holds'). Laid BY PROGRAM, IN A SANDBOX (cutbox-door.mjs). By AI agents, Wed Nov 11 2026. No macro, syntax, notation, axiom, sorry.
-/
import Derived.Test.YtabdnbmibomggaaDoorRows
import GoSem.ClaimSeven
namespace Go.Proofs.YtabdnbmibomggaaDoor
namespace Rows

/-- THE TIED CARD OF 'erewhilelaw07.KeycodeEncodes'. -/
def keycodeEncodesCard : Claim7 := { stood := { row := keycodeEncodesRow, standIns := [], harness := (true, "b8dee4762aa5b7cee256deabc83272cc5336c5cdbbbc448bcaedac05d2c21103"), looks := false }, kinds := [], alts := [], laidByText := true, laidKinds := [.data], laidTests := true, laidLooks := .later }
def KeycodeEncodesCardSaid : Prop := Claim7.holds Tryd.pinned (.plain (OpenSpec.ofChange keycodeEncodesSpec)) keycodeEncodesCard

/-- THE TIED CARD OF 'erewhilelaw07.KeycodeDecodes'. -/
def keycodeDecodesCard : Claim7 := { stood := { row := keycodeDecodesRow, standIns := [], harness := (true, "b8dee4762aa5b7cee256deabc83272cc5336c5cdbbbc448bcaedac05d2c21103"), looks := false }, kinds := [], alts := [], laidByText := true, laidKinds := [.data], laidTests := true, laidLooks := .later }
def KeycodeDecodesCardSaid : Prop := Claim7.holds Tryd.pinned (.plain (OpenSpec.ofChange keycodeDecodesSpec)) keycodeDecodesCard

/-- THE SECOND FORM's CARD OF 'erewhilelaw07.KeycodeEncodes'. -/
def keycodeEncodesUptoCard : Claim7 := { stood := { row := keycodeEncodesUptoRow, standIns := [], harness := (true, "b8dee4762aa5b7cee256deabc83272cc5336c5cdbbbc448bcaedac05d2c21103"), looks := false }, kinds := [], alts := [], laidByText := true, laidKinds := [.data], laidTests := true, laidLooks := .later }
def KeycodeEncodesUptoCardSaid : Prop := Claim7.holds Tryd.pinned (.plain (OpenSpec.upto keycodeEncodesSpec)) keycodeEncodesUptoCard

/-- THE SECOND FORM's CARD OF 'erewhilelaw07.KeycodeDecodes'. -/
def keycodeDecodesUptoCard : Claim7 := { stood := { row := keycodeDecodesUptoRow, standIns := [], harness := (true, "b8dee4762aa5b7cee256deabc83272cc5336c5cdbbbc448bcaedac05d2c21103"), looks := false }, kinds := [], alts := [], laidByText := true, laidKinds := [.data], laidTests := true, laidLooks := .later }
def KeycodeDecodesUptoCardSaid : Prop := Claim7.holds Tryd.pinned (.plain (OpenSpec.upto keycodeDecodesSpec)) keycodeDecodesUptoCard
end Rows
end Go.Proofs.YtabdnbmibomggaaDoor
