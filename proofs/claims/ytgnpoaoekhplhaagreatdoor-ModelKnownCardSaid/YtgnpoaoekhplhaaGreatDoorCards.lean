/-
  DERIVED. GIVEN WITH THE SEED: THE CARDS: each row of YtgnpoaoekhplhaaGreatDoorRows.lean that lists a variable, with what it lists TIED to the program's text (the seventh form; the later family's looks); each row that meets fmt, with fmt's text TOLD by the authors' own Lean function (tested against real Go, not proved from fmt's source: count such statements apart). THE CARD IS WHAT COUNTS. Prove the row's statement (the work); the ties are given (YtgnpoaoekhplhaaGreatDoorTie.lean); close each card by the builder's one call (the guide's Derived/Test/ToyasCard.lean, 'card_holds'). Laid BY PROGRAM, IN A SANDBOX (cutbox-door.mjs). By AI agents, Wed Nov 11 2026. No macro, syntax, notation, axiom, sorry.
-/
import Derived.Test.YtgnpoaoekhplhaaGreatDoorRows
import GoSem.ClaimSeven
namespace Go.Proofs.YtgnpoaoekhplhaaGreatDoor
namespace Rows

/-- THE TIED CARD OF 'croupierlaw11.ModelKnown'. -/
def modelKnownCard : Claim7 := { stood := { row := modelKnownRow, standIns := [], harness := (true, "8b05812dff04d04340dc8328e689a5ddca4ea228943ec7413544a6dd92321493"), looks := true }, kinds := [], alts := [], laidByText := true, laidKinds := [.data, .data, .data, .sentinel, .sentinel], laidTests := true, laidLooks := .later }
def ModelKnownCardSaid : Prop := Claim7.holds Tryz.pinned (.plain (OpenSpec.ofChange modelKnownSpec)) modelKnownCard

/-- THE TIED CARD OF 'croupierlaw11.ModelChecks'. -/
def modelChecksCard : Claim7 := { stood := { row := modelChecksRow, standIns := [], harness := (true, "8b05812dff04d04340dc8328e689a5ddca4ea228943ec7413544a6dd92321493"), looks := true }, kinds := [], alts := [], laidByText := true, laidKinds := [.data, .data, .data, .sentinel, .sentinel], laidTests := true, laidLooks := .later }
def ModelChecksCardSaid : Prop := Claim7.holds Tryz.pinned (.plain (OpenSpec.ofChange modelChecksSpec)) modelChecksCard

/-- THE TIED CARD OF 'croupierlaw11.ModelFixes'. -/
def modelFixesCard : Claim7 := { stood := { row := modelFixesRow, standIns := [], harness := (true, "8b05812dff04d04340dc8328e689a5ddca4ea228943ec7413544a6dd92321493"), looks := true }, kinds := [], alts := [], laidByText := true, laidKinds := [.data, .data, .data, .sentinel, .sentinel], laidTests := true, laidLooks := .later }
def ModelFixesCardSaid : Prop := Claim7.holds Tryz.pinned (.plain (OpenSpec.ofChange modelFixesSpec)) modelFixesCard

/-- THE TIED CARD OF 'croupierlaw11.ModelGraphs'. -/
def modelGraphsCard : Claim7 := { stood := { row := modelGraphsRow, standIns := [], harness := (true, "8b05812dff04d04340dc8328e689a5ddca4ea228943ec7413544a6dd92321493"), looks := true }, kinds := [], alts := [], laidByText := true, laidKinds := [.data, .data, .data, .sentinel, .sentinel], laidTests := true, laidLooks := .later }
def ModelGraphsCardSaid : Prop := Claim7.holds Tryz.pinned (.plain (OpenSpec.ofChange modelGraphsSpec)) modelGraphsCard

/-- THE TIED CARD OF 'croupierlaw11.ModelChains'. -/
def modelChainsCard : Claim7 := { stood := { row := modelChainsRow, standIns := [], harness := (true, "8b05812dff04d04340dc8328e689a5ddca4ea228943ec7413544a6dd92321493"), looks := true }, kinds := [], alts := [], laidByText := true, laidKinds := [.data, .data, .data, .sentinel, .sentinel], laidTests := true, laidLooks := .later }
def ModelChainsCardSaid : Prop := Claim7.holds Tryz.pinned (.plain (OpenSpec.ofChange modelChainsSpec)) modelChainsCard

/-- THE TIED CARD OF 'croupierlaw11.ModelParts'. -/
def modelPartsCard : Claim7 := { stood := { row := modelPartsRow, standIns := [], harness := (true, "8b05812dff04d04340dc8328e689a5ddca4ea228943ec7413544a6dd92321493"), looks := true }, kinds := [], alts := [], laidByText := true, laidKinds := [.data, .data, .data, .sentinel, .sentinel], laidTests := true, laidLooks := .later }
def ModelPartsCardSaid : Prop := Claim7.holds Tryz.pinned (.plain (OpenSpec.ofChange modelPartsSpec)) modelPartsCard

/-- THE SECOND FORM's CARD OF 'croupierlaw11.ModelKnown'. -/
def modelKnownUptoCard : Claim7 := { stood := { row := modelKnownUptoRow, standIns := [], harness := (true, "8b05812dff04d04340dc8328e689a5ddca4ea228943ec7413544a6dd92321493"), looks := true }, kinds := [], alts := [], laidByText := true, laidKinds := [.data, .data, .data, .sentinel, .sentinel], laidTests := true, laidLooks := .later }
def ModelKnownUptoCardSaid : Prop := Claim7.holds Tryz.pinned (.plain (OpenSpec.upto modelKnownSpec)) modelKnownUptoCard

/-- THE SECOND FORM's CARD OF 'croupierlaw11.ModelChecks'. -/
def modelChecksUptoCard : Claim7 := { stood := { row := modelChecksUptoRow, standIns := [], harness := (true, "8b05812dff04d04340dc8328e689a5ddca4ea228943ec7413544a6dd92321493"), looks := true }, kinds := [], alts := [], laidByText := true, laidKinds := [.data, .data, .data, .sentinel, .sentinel], laidTests := true, laidLooks := .later }
def ModelChecksUptoCardSaid : Prop := Claim7.holds Tryz.pinned (.plain (OpenSpec.upto modelChecksSpec)) modelChecksUptoCard

/-- THE SECOND FORM's CARD OF 'croupierlaw11.ModelFixes'. -/
def modelFixesUptoCard : Claim7 := { stood := { row := modelFixesUptoRow, standIns := [], harness := (true, "8b05812dff04d04340dc8328e689a5ddca4ea228943ec7413544a6dd92321493"), looks := true }, kinds := [], alts := [], laidByText := true, laidKinds := [.data, .data, .data, .sentinel, .sentinel], laidTests := true, laidLooks := .later }
def ModelFixesUptoCardSaid : Prop := Claim7.holds Tryz.pinned (.plain (OpenSpec.upto modelFixesSpec)) modelFixesUptoCard

/-- THE SECOND FORM's CARD OF 'croupierlaw11.ModelGraphs'. -/
def modelGraphsUptoCard : Claim7 := { stood := { row := modelGraphsUptoRow, standIns := [], harness := (true, "8b05812dff04d04340dc8328e689a5ddca4ea228943ec7413544a6dd92321493"), looks := true }, kinds := [], alts := [], laidByText := true, laidKinds := [.data, .data, .data, .sentinel, .sentinel], laidTests := true, laidLooks := .later }
def ModelGraphsUptoCardSaid : Prop := Claim7.holds Tryz.pinned (.plain (OpenSpec.upto modelGraphsSpec)) modelGraphsUptoCard

/-- THE SECOND FORM's CARD OF 'croupierlaw11.ModelChains'. -/
def modelChainsUptoCard : Claim7 := { stood := { row := modelChainsUptoRow, standIns := [], harness := (true, "8b05812dff04d04340dc8328e689a5ddca4ea228943ec7413544a6dd92321493"), looks := true }, kinds := [], alts := [], laidByText := true, laidKinds := [.data, .data, .data, .sentinel, .sentinel], laidTests := true, laidLooks := .later }
def ModelChainsUptoCardSaid : Prop := Claim7.holds Tryz.pinned (.plain (OpenSpec.upto modelChainsSpec)) modelChainsUptoCard

/-- THE SECOND FORM's CARD OF 'croupierlaw11.ModelParts'. -/
def modelPartsUptoCard : Claim7 := { stood := { row := modelPartsUptoRow, standIns := [], harness := (true, "8b05812dff04d04340dc8328e689a5ddca4ea228943ec7413544a6dd92321493"), looks := true }, kinds := [], alts := [], laidByText := true, laidKinds := [.data, .data, .data, .sentinel, .sentinel], laidTests := true, laidLooks := .later }
def ModelPartsUptoCardSaid : Prop := Claim7.holds Tryz.pinned (.plain (OpenSpec.upto modelPartsSpec)) modelPartsUptoCard
end Rows
end Go.Proofs.YtgnpoaoekhplhaaGreatDoor
