/-
  DERIVED. GIVEN WITH THE SEED: THE CARDS: each row of YteehkgkgpogffaaGreatDoorRows.lean that lists a variable, with what it lists TIED to the program's text (the seventh form; the later family's looks); each row that meets fmt, with fmt's text TOLD by the authors' own Lean function (tested against real Go, not proved from fmt's source: count such statements apart). THE CARD IS WHAT COUNTS. Prove the row's statement (the work); the ties are given (YteehkgkgpogffaaGreatDoorTie.lean); close each card by the builder's one call (the guide's Derived/Test/ToyasCard.lean, 'card_holds'). Laid BY PROGRAM, IN A SANDBOX (cutbox-door.mjs). By AI agents, Wed Nov 11 2026. No macro, syntax, notation, axiom, sorry.
-/
import Derived.Test.YteehkgkgpogffaaGreatDoorRows
import GoSem.ClaimSeven
namespace Go.Proofs.YteehkgkgpogffaaGreatDoor
namespace Rows

/-- THE TIED CARD OF 'understorylaw23.ExprChecks'. -/
def exprChecksCard : Claim7 := { stood := { row := exprChecksRow, standIns := [], harness := (true, "2d7692be5541b3e613b3dfd8af561a0c2ec286e0ede7ab0ef98489d4cefc276b"), looks := true }, kinds := [], alts := [], laidByText := true, laidKinds := [.data, .data, .data, .data, .sentinel, .sentinel, .pinned], laidTests := true, laidLooks := .later }
def ExprChecksCardSaid : Prop := Claim7.holds Tryz.pinned (.plain (OpenSpec.ofChange exprChecksSpec)) exprChecksCard

/-- THE TIED CARD OF 'understorylaw23.ExprBounds'. -/
def exprBoundsCard : Claim7 := { stood := { row := exprBoundsRow, standIns := [], harness := (true, "2d7692be5541b3e613b3dfd8af561a0c2ec286e0ede7ab0ef98489d4cefc276b"), looks := true }, kinds := [], alts := [], laidByText := true, laidKinds := [.data, .data, .data, .data, .sentinel, .sentinel, .pinned], laidTests := true, laidLooks := .later }
def ExprBoundsCardSaid : Prop := Claim7.holds Tryz.pinned (.plain (OpenSpec.ofChange exprBoundsSpec)) exprBoundsCard

/-- THE TIED CARD OF 'understorylaw23.ExprSound'. -/
def exprSoundCard : Claim7 := { stood := { row := exprSoundRow, standIns := [], harness := (true, "2d7692be5541b3e613b3dfd8af561a0c2ec286e0ede7ab0ef98489d4cefc276b"), looks := true }, kinds := [], alts := [], laidByText := true, laidKinds := [.data, .data, .data, .data, .sentinel, .sentinel, .pinned], laidTests := true, laidLooks := .later }
def ExprSoundCardSaid : Prop := Claim7.holds Tryz.pinned (.plain (OpenSpec.ofChange exprSoundSpec)) exprSoundCard

/-- THE TIED CARD OF 'understorylaw23.ExprLogic'. -/
def exprLogicCard : Claim7 := { stood := { row := exprLogicRow, standIns := [], harness := (true, "2d7692be5541b3e613b3dfd8af561a0c2ec286e0ede7ab0ef98489d4cefc276b"), looks := true }, kinds := [], alts := [], laidByText := true, laidKinds := [.data, .data, .data, .data, .sentinel, .sentinel, .pinned], laidTests := true, laidLooks := .later }
def ExprLogicCardSaid : Prop := Claim7.holds Tryz.pinned (.plain (OpenSpec.ofChange exprLogicSpec)) exprLogicCard

/-- THE TIED CARD OF 'understorylaw23.ExprRanges'. -/
def exprRangesCard : Claim7 := { stood := { row := exprRangesRow, standIns := [], harness := (true, "2d7692be5541b3e613b3dfd8af561a0c2ec286e0ede7ab0ef98489d4cefc276b"), looks := true }, kinds := [], alts := [], laidByText := true, laidKinds := [.data, .data, .data, .data, .sentinel, .sentinel, .pinned], laidTests := true, laidLooks := .later }
def ExprRangesCardSaid : Prop := Claim7.holds Tryz.pinned (.plain (OpenSpec.ofChange exprRangesSpec)) exprRangesCard

/-- THE TIED CARD OF 'understorylaw23.ExprEvals'. -/
def exprEvalsCard : Claim7 := { stood := { row := exprEvalsRow, standIns := [], harness := (true, "2d7692be5541b3e613b3dfd8af561a0c2ec286e0ede7ab0ef98489d4cefc276b"), looks := true }, kinds := [], alts := [], laidByText := true, laidKinds := [.data, .data, .data, .data, .sentinel, .sentinel, .pinned], laidTests := true, laidLooks := .later }
def ExprEvalsCardSaid : Prop := Claim7.holds Tryz.pinned (.plain (OpenSpec.ofChange exprEvalsSpec)) exprEvalsCard

/-- THE TIED CARD OF 'understorylaw23.ExprLies'. -/
def exprLiesCard : Claim7 := { stood := { row := exprLiesRow, standIns := [], harness := (true, "2d7692be5541b3e613b3dfd8af561a0c2ec286e0ede7ab0ef98489d4cefc276b"), looks := true }, kinds := [], alts := [], laidByText := true, laidKinds := [.data, .data, .data, .data, .sentinel, .sentinel, .pinned], laidTests := true, laidLooks := .later }
def ExprLiesCardSaid : Prop := Claim7.holds Tryz.pinned (.plain (OpenSpec.ofChange exprLiesSpec)) exprLiesCard

/-- THE TIED CARD OF 'understorylaw23.ExprSteps'. -/
def exprStepsCard : Claim7 := { stood := { row := exprStepsRow, standIns := [], harness := (true, "2d7692be5541b3e613b3dfd8af561a0c2ec286e0ede7ab0ef98489d4cefc276b"), looks := true }, kinds := [], alts := [], laidByText := true, laidKinds := [.data, .data, .data, .data, .sentinel, .sentinel, .pinned], laidTests := true, laidLooks := .later }
def ExprStepsCardSaid : Prop := Claim7.holds Tryz.pinned (.plain (OpenSpec.ofChange exprStepsSpec)) exprStepsCard

/-- THE TIED CARD OF 'understorylaw23.ExprKeeps'. -/
def exprKeepsCard : Claim7 := { stood := { row := exprKeepsRow, standIns := [], harness := (true, "2d7692be5541b3e613b3dfd8af561a0c2ec286e0ede7ab0ef98489d4cefc276b"), looks := true }, kinds := [], alts := [], laidByText := true, laidKinds := [.data, .data, .data, .data, .sentinel, .sentinel, .pinned], laidTests := true, laidLooks := .later }
def ExprKeepsCardSaid : Prop := Claim7.holds Tryz.pinned (.plain (OpenSpec.ofChange exprKeepsSpec)) exprKeepsCard

/-- THE TIED CARD OF 'understorylaw23.ExprBinds'. -/
def exprBindsCard : Claim7 := { stood := { row := exprBindsRow, standIns := [], harness := (true, "2d7692be5541b3e613b3dfd8af561a0c2ec286e0ede7ab0ef98489d4cefc276b"), looks := true }, kinds := [], alts := [], laidByText := true, laidKinds := [.data, .data, .data, .data, .sentinel, .sentinel, .pinned], laidTests := true, laidLooks := .later }
def ExprBindsCardSaid : Prop := Claim7.holds Tryz.pinned (.plain (OpenSpec.ofChange exprBindsSpec)) exprBindsCard

/-- THE TIED CARD OF 'understorylaw23.ExprParts'. -/
def exprPartsCard : Claim7 := { stood := { row := exprPartsRow, standIns := [], harness := (true, "2d7692be5541b3e613b3dfd8af561a0c2ec286e0ede7ab0ef98489d4cefc276b"), looks := true }, kinds := [], alts := [], laidByText := true, laidKinds := [.data, .data, .data, .data, .sentinel, .sentinel, .pinned], laidTests := true, laidLooks := .later }
def ExprPartsCardSaid : Prop := Claim7.holds Tryz.pinned (.plain (OpenSpec.ofChange exprPartsSpec)) exprPartsCard

/-- THE TIED CARD OF 'understorylaw23.ExprNames'. -/
def exprNamesCard : Claim7 := { stood := { row := exprNamesRow, standIns := [], harness := (true, "2d7692be5541b3e613b3dfd8af561a0c2ec286e0ede7ab0ef98489d4cefc276b"), looks := true }, kinds := [], alts := [], laidByText := true, laidKinds := [.data, .data, .data, .data, .sentinel, .sentinel, .pinned], laidTests := true, laidLooks := .later }
def ExprNamesCardSaid : Prop := Claim7.holds Tryz.pinned (.plain (OpenSpec.ofChange exprNamesSpec)) exprNamesCard

/-- THE TIED CARD OF 'understorylaw23.ExprForms'. -/
def exprFormsCard : Claim7 := { stood := { row := exprFormsRow, standIns := [], harness := (true, "2d7692be5541b3e613b3dfd8af561a0c2ec286e0ede7ab0ef98489d4cefc276b"), looks := true }, kinds := [], alts := [], laidByText := true, laidKinds := [.data, .data, .data, .data, .sentinel, .sentinel, .pinned], laidTests := true, laidLooks := .later }
def ExprFormsCardSaid : Prop := Claim7.holds Tryz.pinned (.plain (OpenSpec.ofChange exprFormsSpec)) exprFormsCard

/-- THE TIED CARD OF 'understorylaw23.ExprMatters'. -/
def exprMattersCard : Claim7 := { stood := { row := exprMattersRow, standIns := [], harness := (true, "2d7692be5541b3e613b3dfd8af561a0c2ec286e0ede7ab0ef98489d4cefc276b"), looks := true }, kinds := [], alts := [], laidByText := true, laidKinds := [.data, .data, .data, .data, .sentinel, .sentinel, .pinned], laidTests := true, laidLooks := .later }
def ExprMattersCardSaid : Prop := Claim7.holds Tryz.pinned (.plain (OpenSpec.ofChange exprMattersSpec)) exprMattersCard

/-- THE SECOND FORM's CARD OF 'understorylaw23.ExprChecks'. -/
def exprChecksUptoCard : Claim7 := { stood := { row := exprChecksUptoRow, standIns := [], harness := (true, "2d7692be5541b3e613b3dfd8af561a0c2ec286e0ede7ab0ef98489d4cefc276b"), looks := true }, kinds := [], alts := [], laidByText := true, laidKinds := [.data, .data, .data, .data, .sentinel, .sentinel, .pinned], laidTests := true, laidLooks := .later }
def ExprChecksUptoCardSaid : Prop := Claim7.holds Tryz.pinned (.plain (OpenSpec.upto exprChecksSpec)) exprChecksUptoCard

/-- THE SECOND FORM's CARD OF 'understorylaw23.ExprBounds'. -/
def exprBoundsUptoCard : Claim7 := { stood := { row := exprBoundsUptoRow, standIns := [], harness := (true, "2d7692be5541b3e613b3dfd8af561a0c2ec286e0ede7ab0ef98489d4cefc276b"), looks := true }, kinds := [], alts := [], laidByText := true, laidKinds := [.data, .data, .data, .data, .sentinel, .sentinel, .pinned], laidTests := true, laidLooks := .later }
def ExprBoundsUptoCardSaid : Prop := Claim7.holds Tryz.pinned (.plain (OpenSpec.upto exprBoundsSpec)) exprBoundsUptoCard

/-- THE SECOND FORM's CARD OF 'understorylaw23.ExprSound'. -/
def exprSoundUptoCard : Claim7 := { stood := { row := exprSoundUptoRow, standIns := [], harness := (true, "2d7692be5541b3e613b3dfd8af561a0c2ec286e0ede7ab0ef98489d4cefc276b"), looks := true }, kinds := [], alts := [], laidByText := true, laidKinds := [.data, .data, .data, .data, .sentinel, .sentinel, .pinned], laidTests := true, laidLooks := .later }
def ExprSoundUptoCardSaid : Prop := Claim7.holds Tryz.pinned (.plain (OpenSpec.upto exprSoundSpec)) exprSoundUptoCard

/-- THE SECOND FORM's CARD OF 'understorylaw23.ExprLogic'. -/
def exprLogicUptoCard : Claim7 := { stood := { row := exprLogicUptoRow, standIns := [], harness := (true, "2d7692be5541b3e613b3dfd8af561a0c2ec286e0ede7ab0ef98489d4cefc276b"), looks := true }, kinds := [], alts := [], laidByText := true, laidKinds := [.data, .data, .data, .data, .sentinel, .sentinel, .pinned], laidTests := true, laidLooks := .later }
def ExprLogicUptoCardSaid : Prop := Claim7.holds Tryz.pinned (.plain (OpenSpec.upto exprLogicSpec)) exprLogicUptoCard

/-- THE SECOND FORM's CARD OF 'understorylaw23.ExprRanges'. -/
def exprRangesUptoCard : Claim7 := { stood := { row := exprRangesUptoRow, standIns := [], harness := (true, "2d7692be5541b3e613b3dfd8af561a0c2ec286e0ede7ab0ef98489d4cefc276b"), looks := true }, kinds := [], alts := [], laidByText := true, laidKinds := [.data, .data, .data, .data, .sentinel, .sentinel, .pinned], laidTests := true, laidLooks := .later }
def ExprRangesUptoCardSaid : Prop := Claim7.holds Tryz.pinned (.plain (OpenSpec.upto exprRangesSpec)) exprRangesUptoCard

/-- THE SECOND FORM's CARD OF 'understorylaw23.ExprEvals'. -/
def exprEvalsUptoCard : Claim7 := { stood := { row := exprEvalsUptoRow, standIns := [], harness := (true, "2d7692be5541b3e613b3dfd8af561a0c2ec286e0ede7ab0ef98489d4cefc276b"), looks := true }, kinds := [], alts := [], laidByText := true, laidKinds := [.data, .data, .data, .data, .sentinel, .sentinel, .pinned], laidTests := true, laidLooks := .later }
def ExprEvalsUptoCardSaid : Prop := Claim7.holds Tryz.pinned (.plain (OpenSpec.upto exprEvalsSpec)) exprEvalsUptoCard

/-- THE SECOND FORM's CARD OF 'understorylaw23.ExprLies'. -/
def exprLiesUptoCard : Claim7 := { stood := { row := exprLiesUptoRow, standIns := [], harness := (true, "2d7692be5541b3e613b3dfd8af561a0c2ec286e0ede7ab0ef98489d4cefc276b"), looks := true }, kinds := [], alts := [], laidByText := true, laidKinds := [.data, .data, .data, .data, .sentinel, .sentinel, .pinned], laidTests := true, laidLooks := .later }
def ExprLiesUptoCardSaid : Prop := Claim7.holds Tryz.pinned (.plain (OpenSpec.upto exprLiesSpec)) exprLiesUptoCard

/-- THE SECOND FORM's CARD OF 'understorylaw23.ExprSteps'. -/
def exprStepsUptoCard : Claim7 := { stood := { row := exprStepsUptoRow, standIns := [], harness := (true, "2d7692be5541b3e613b3dfd8af561a0c2ec286e0ede7ab0ef98489d4cefc276b"), looks := true }, kinds := [], alts := [], laidByText := true, laidKinds := [.data, .data, .data, .data, .sentinel, .sentinel, .pinned], laidTests := true, laidLooks := .later }
def ExprStepsUptoCardSaid : Prop := Claim7.holds Tryz.pinned (.plain (OpenSpec.upto exprStepsSpec)) exprStepsUptoCard

/-- THE SECOND FORM's CARD OF 'understorylaw23.ExprKeeps'. -/
def exprKeepsUptoCard : Claim7 := { stood := { row := exprKeepsUptoRow, standIns := [], harness := (true, "2d7692be5541b3e613b3dfd8af561a0c2ec286e0ede7ab0ef98489d4cefc276b"), looks := true }, kinds := [], alts := [], laidByText := true, laidKinds := [.data, .data, .data, .data, .sentinel, .sentinel, .pinned], laidTests := true, laidLooks := .later }
def ExprKeepsUptoCardSaid : Prop := Claim7.holds Tryz.pinned (.plain (OpenSpec.upto exprKeepsSpec)) exprKeepsUptoCard

/-- THE SECOND FORM's CARD OF 'understorylaw23.ExprBinds'. -/
def exprBindsUptoCard : Claim7 := { stood := { row := exprBindsUptoRow, standIns := [], harness := (true, "2d7692be5541b3e613b3dfd8af561a0c2ec286e0ede7ab0ef98489d4cefc276b"), looks := true }, kinds := [], alts := [], laidByText := true, laidKinds := [.data, .data, .data, .data, .sentinel, .sentinel, .pinned], laidTests := true, laidLooks := .later }
def ExprBindsUptoCardSaid : Prop := Claim7.holds Tryz.pinned (.plain (OpenSpec.upto exprBindsSpec)) exprBindsUptoCard

/-- THE SECOND FORM's CARD OF 'understorylaw23.ExprParts'. -/
def exprPartsUptoCard : Claim7 := { stood := { row := exprPartsUptoRow, standIns := [], harness := (true, "2d7692be5541b3e613b3dfd8af561a0c2ec286e0ede7ab0ef98489d4cefc276b"), looks := true }, kinds := [], alts := [], laidByText := true, laidKinds := [.data, .data, .data, .data, .sentinel, .sentinel, .pinned], laidTests := true, laidLooks := .later }
def ExprPartsUptoCardSaid : Prop := Claim7.holds Tryz.pinned (.plain (OpenSpec.upto exprPartsSpec)) exprPartsUptoCard

/-- THE SECOND FORM's CARD OF 'understorylaw23.ExprNames'. -/
def exprNamesUptoCard : Claim7 := { stood := { row := exprNamesUptoRow, standIns := [], harness := (true, "2d7692be5541b3e613b3dfd8af561a0c2ec286e0ede7ab0ef98489d4cefc276b"), looks := true }, kinds := [], alts := [], laidByText := true, laidKinds := [.data, .data, .data, .data, .sentinel, .sentinel, .pinned], laidTests := true, laidLooks := .later }
def ExprNamesUptoCardSaid : Prop := Claim7.holds Tryz.pinned (.plain (OpenSpec.upto exprNamesSpec)) exprNamesUptoCard

/-- THE SECOND FORM's CARD OF 'understorylaw23.ExprForms'. -/
def exprFormsUptoCard : Claim7 := { stood := { row := exprFormsUptoRow, standIns := [], harness := (true, "2d7692be5541b3e613b3dfd8af561a0c2ec286e0ede7ab0ef98489d4cefc276b"), looks := true }, kinds := [], alts := [], laidByText := true, laidKinds := [.data, .data, .data, .data, .sentinel, .sentinel, .pinned], laidTests := true, laidLooks := .later }
def ExprFormsUptoCardSaid : Prop := Claim7.holds Tryz.pinned (.plain (OpenSpec.upto exprFormsSpec)) exprFormsUptoCard

/-- THE SECOND FORM's CARD OF 'understorylaw23.ExprMatters'. -/
def exprMattersUptoCard : Claim7 := { stood := { row := exprMattersUptoRow, standIns := [], harness := (true, "2d7692be5541b3e613b3dfd8af561a0c2ec286e0ede7ab0ef98489d4cefc276b"), looks := true }, kinds := [], alts := [], laidByText := true, laidKinds := [.data, .data, .data, .data, .sentinel, .sentinel, .pinned], laidTests := true, laidLooks := .later }
def ExprMattersUptoCardSaid : Prop := Claim7.holds Tryz.pinned (.plain (OpenSpec.upto exprMattersSpec)) exprMattersUptoCard
end Rows
end Go.Proofs.YteehkgkgpogffaaGreatDoor
