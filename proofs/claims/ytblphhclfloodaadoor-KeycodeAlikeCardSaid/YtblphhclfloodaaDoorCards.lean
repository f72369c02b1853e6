/-
  DERIVED. GIVEN WITH THE SEED: THE CARDS: each row of YtblphhclfloodaaDoorRows.lean that lists a variable, with what it lists TIED to the program's text (the seventh form; the later family's looks); each row that meets fmt, with fmt's text TOLD by the authors' own Lean function (tested against real Go, not proved from fmt's source: count such statements apart). THE CARD IS WHAT COUNTS. Prove the row's statement (the work); the ties are given (YtblphhclfloodaaDoorTie.lean); close each card by the builder's one call (the guide's Derived/Test/ToyasCard.lean, 'card_holds'). Laid BY PROGRAM, IN A SANDBOX (cutbox-door.mjs). By AI agents, Wed Nov 11 2026. No macro, syntax, notation, axiom, sorry.
-/
import Derived.Test.YtblphhclfloodaaDoorRows
import GoSem.ClaimSeven
namespace Go.Proofs.YtblphhclfloodaaDoor
namespace Rows

/-- THE TIED CARD OF 'erewhilelaw07.KeycodeEncodes'. -/
def keycodeEncodesCard : Claim7 := { stood := { row := keycodeEncodesRow, standIns := [], harness := (true, "7fa9b0744c791c7c1e7a1fb177179816e0e8fdaa4214355131a069561f0353c8"), looks := false }, kinds := [], alts := [], laidByText := true, laidKinds := [.data], laidTests := true, laidLooks := .later }
def KeycodeEncodesCardSaid : Prop := Claim7.holds Tryd.pinned (.plain (OpenSpec.ofChange keycodeEncodesSpec)) keycodeEncodesCard

/-- THE TIED CARD OF 'erewhilelaw07.KeycodeDecodes'. -/
def keycodeDecodesCard : Claim7 := { stood := { row := keycodeDecodesRow, standIns := [], harness := (true, "7fa9b0744c791c7c1e7a1fb177179816e0e8fdaa4214355131a069561f0353c8"), looks := false }, kinds := [], alts := [], laidByText := true, laidKinds := [.data], laidTests := true, laidLooks := .later }
def KeycodeDecodesCardSaid : Prop := Claim7.holds Tryd.pinned (.plain (OpenSpec.ofChange keycodeDecodesSpec)) keycodeDecodesCard

/-- THE TIED CARD OF 'erewhilelaw07.KeycodeCut'. -/
def keycodeCutCard : Claim7 := { stood := { row := keycodeCutRow, standIns := [], harness := (true, "7fa9b0744c791c7c1e7a1fb177179816e0e8fdaa4214355131a069561f0353c8"), looks := false }, kinds := [], alts := [], laidByText := true, laidKinds := [.data], laidTests := true, laidLooks := .later }
def KeycodeCutCardSaid : Prop := Claim7.holds Tryd.pinned (.plain (OpenSpec.ofChange keycodeCutSpec)) keycodeCutCard

/-- THE TIED CARD OF 'erewhilelaw07.KeycodeSpoilt'. -/
def keycodeSpoiltCard : Claim7 := { stood := { row := keycodeSpoiltRow, standIns := [], harness := (true, "7fa9b0744c791c7c1e7a1fb177179816e0e8fdaa4214355131a069561f0353c8"), looks := false }, kinds := [], alts := [], laidByText := true, laidKinds := [.data], laidTests := true, laidLooks := .later }
def KeycodeSpoiltCardSaid : Prop := Claim7.holds Tryd.pinned (.plain (OpenSpec.ofChange keycodeSpoiltSpec)) keycodeSpoiltCard

/-- THE TIED CARD OF 'erewhilelaw07.KeycodeOrder'. -/
def keycodeOrderCard : Claim7 := { stood := { row := keycodeOrderRow, standIns := [], harness := (true, "7fa9b0744c791c7c1e7a1fb177179816e0e8fdaa4214355131a069561f0353c8"), looks := false }, kinds := [], alts := [], laidByText := true, laidKinds := [.data], laidTests := true, laidLooks := .later }
def KeycodeOrderCardSaid : Prop := Claim7.holds Tryd.pinned (.plain (OpenSpec.ofChange keycodeOrderSpec)) keycodeOrderCard

/-- THE TIED CARD OF 'erewhilelaw07.KeycodeAlike'. -/
def keycodeAlikeCard : Claim7 := { stood := { row := keycodeAlikeRow, standIns := [], harness := (true, "7fa9b0744c791c7c1e7a1fb177179816e0e8fdaa4214355131a069561f0353c8"), looks := false }, kinds := [], alts := [], laidByText := true, laidKinds := [.data], laidTests := true, laidLooks := .later }
def KeycodeAlikeCardSaid : Prop := Claim7.holds Tryd.pinned (.plain (OpenSpec.ofChange keycodeAlikeSpec)) keycodeAlikeCard

/-- THE TIED CARD OF 'erewhilelaw07.KeycodeFew'. -/
def keycodeFewCard : Claim7 := { stood := { row := keycodeFewRow, standIns := [], harness := (true, "7fa9b0744c791c7c1e7a1fb177179816e0e8fdaa4214355131a069561f0353c8"), looks := false }, kinds := [], alts := [], laidByText := true, laidKinds := [.data], laidTests := true, laidLooks := .later }
def KeycodeFewCardSaid : Prop := Claim7.holds Tryd.pinned (.plain (OpenSpec.ofChange keycodeFewSpec)) keycodeFewCard

/-- THE TIED CARD OF 'erewhilelaw07.KeycodeBack'. -/
def keycodeBackCard : Claim7 := { stood := { row := keycodeBackRow, standIns := [], harness := (true, "7fa9b0744c791c7c1e7a1fb177179816e0e8fdaa4214355131a069561f0353c8"), looks := false }, kinds := [], alts := [], laidByText := true, laidKinds := [.data], laidTests := true, laidLooks := .later }
def KeycodeBackCardSaid : Prop := Claim7.holds Tryd.pinned (.plain (OpenSpec.ofChange keycodeBackSpec)) keycodeBackCard

/-- THE SECOND FORM's CARD OF 'erewhilelaw07.KeycodeEncodes'. -/
def keycodeEncodesUptoCard : Claim7 := { stood := { row := keycodeEncodesUptoRow, standIns := [], harness := (true, "7fa9b0744c791c7c1e7a1fb177179816e0e8fdaa4214355131a069561f0353c8"), looks := false }, kinds := [], alts := [], laidByText := true, laidKinds := [.data], laidTests := true, laidLooks := .later }
def KeycodeEncodesUptoCardSaid : Prop := Claim7.holds Tryd.pinned (.plain (OpenSpec.upto keycodeEncodesSpec)) keycodeEncodesUptoCard

/-- THE SECOND FORM's CARD OF 'erewhilelaw07.KeycodeDecodes'. -/
def keycodeDecodesUptoCard : Claim7 := { stood := { row := keycodeDecodesUptoRow, standIns := [], harness := (true, "7fa9b0744c791c7c1e7a1fb177179816e0e8fdaa4214355131a069561f0353c8"), looks := false }, kinds := [], alts := [], laidByText := true, laidKinds := [.data], laidTests := true, laidLooks := .later }
def KeycodeDecodesUptoCardSaid : Prop := Claim7.holds Tryd.pinned (.plain (OpenSpec.upto keycodeDecodesSpec)) keycodeDecodesUptoCard

/-- THE SECOND FORM's CARD OF 'erewhilelaw07.KeycodeCut'. -/
def keycodeCutUptoCard : Claim7 := { stood := { row := keycodeCutUptoRow, standIns := [], harness := (true, "7fa9b0744c791c7c1e7a1fb177179816e0e8fdaa4214355131a069561f0353c8"), looks := false }, kinds := [], alts := [], laidByText := true, laidKinds := [.data], laidTests := true, laidLooks := .later }
def KeycodeCutUptoCardSaid : Prop := Claim7.holds Tryd.pinned (.plain (OpenSpec.upto keycodeCutSpec)) keycodeCutUptoCard

/-- THE SECOND FORM's CARD OF 'erewhilelaw07.KeycodeSpoilt'. -/
def keycodeSpoiltUptoCard : Claim7 := { stood := { row := keycodeSpoiltUptoRow, standIns := [], harness := (true, "7fa9b0744c791c7c1e7a1fb177179816e0e8fdaa4214355131a069561f0353c8"), looks := false }, kinds := [], alts := [], laidByText := true, laidKinds := [.data], laidTests := true, laidLooks := .later }
def KeycodeSpoiltUptoCardSaid : Prop := Claim7.holds Tryd.pinned (.plain (OpenSpec.upto keycodeSpoiltSpec)) keycodeSpoiltUptoCard

/-- THE SECOND FORM's CARD OF 'erewhilelaw07.KeycodeOrder'. -/
def keycodeOrderUptoCard : Claim7 := { stood := { row := keycodeOrderUptoRow, standIns := [], harness := (true, "7fa9b0744c791c7c1e7a1fb177179816e0e8fdaa4214355131a069561f0353c8"), looks := false }, kinds := [], alts := [], laidByText := true, laidKinds := [.data], laidTests := true, laidLooks := .later }
def KeycodeOrderUptoCardSaid : Prop := Claim7.holds Tryd.pinned (.plain (OpenSpec.upto keycodeOrderSpec)) keycodeOrderUptoCard

/-- THE SECOND FORM's CARD OF 'erewhilelaw07.KeycodeAlike'. -/
def keycodeAlikeUptoCard : Claim7 := { stood := { row := keycodeAlikeUptoRow, standIns := [], harness := (true, "7fa9b0744c791c7c1e7a1fb177179816e0e8fdaa4214355131a069561f0353c8"), looks := false }, kinds := [], alts := [], laidByText := true, laidKinds := [.data], laidTests := true, laidLooks := .later }
def KeycodeAlikeUptoCardSaid : Prop := Claim7.holds Tryd.pinned (.plain (OpenSpec.upto keycodeAlikeSpec)) keycodeAlikeUptoCard

/-- THE SECOND FORM's CARD OF 'erewhilelaw07.KeycodeFew'. -/
def keycodeFewUptoCard : Claim7 := { stood := { row := keycodeFewUptoRow, standIns := [], harness := (true, "7fa9b0744c791c7c1e7a1fb177179816e0e8fdaa4214355131a069561f0353c8"), looks := false }, kinds := [], alts := [], laidByText := true, laidKinds := [.data], laidTests := true, laidLooks := .later }
def KeycodeFewUptoCardSaid : Prop := Claim7.holds Tryd.pinned (.plain (OpenSpec.upto keycodeFewSpec)) keycodeFewUptoCard

/-- THE SECOND FORM's CARD OF 'erewhilelaw07.KeycodeBack'. -/
def keycodeBackUptoCard : Claim7 := { stood := { row := keycodeBackUptoRow, standIns := [], harness := (true, "7fa9b0744c791c7c1e7a1fb177179816e0e8fdaa4214355131a069561f0353c8"), looks := false }, kinds := [], alts := [], laidByText := true, laidKinds := [.data], laidTests := true, laidLooks := .later }
def KeycodeBackUptoCardSaid : Prop := Claim7.holds Tryd.pinned (.plain (OpenSpec.upto keycodeBackSpec)) keycodeBackUptoCard
end Rows
end Go.Proofs.YtblphhclfloodaaDoor
