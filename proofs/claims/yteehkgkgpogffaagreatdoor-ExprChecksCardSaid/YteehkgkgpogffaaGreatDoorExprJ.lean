import Derived.JoinedOf
import Derived.KernelRfl
import Derived.SevenTiedAt
import Derived.Test.YteehkgkgpogffaaGreatDoorRows
set_option linter.unusedSimpArgs false
set_option linter.unusedVariables false
set_option linter.unusedSectionVars false
/- Closed facts of the row of ExprChecks, each for itself. -/
namespace Go.Proofs.YteehkgkgpogffaaGreatDoor
open Go
theorem jf_laid : laidOutB Tryz.prog = true := by kernel_rfl
theorem jf_rowed : mapsRowed Tryz.prog = true := by kernel_rfl
theorem jf_stops : (Tryz.prog.stops == []) = true := by kernel_rfl
theorem jf_knobs : (Tryz.prog.stopKnobs == []) = true := by kernel_rfl
theorem jf_inPlace : (Rows.exprChecksRow.inPlace == Tryz.prog.inPlace 3) = true := by kernel_rfl
theorem jf_unfollowed : (Rows.exprChecksRow.unfollowed == Tryz.prog.unfollowed 3) = true := by kernel_rfl
theorem jf_recurses : (Rows.exprChecksRow.recurses == Tryz.prog.recurses 3) = true := by kernel_rfl
theorem jf_named : (Rows.exprChecksRow.named == Tryz.prog.varsNamed 3) = true := by kernel_rfl
theorem jf_plain : (Rows.exprChecksRow.plainKeys == Tryz.prog.plainKeys) = true := by kernel_rfl
theorem jf_heard : Tryz.prog.stopsHeard = true := by kernel_rfl
theorem jf_enter : Tryz.prog.mayEnter = true := by kernel_rfl
theorem jf_lifted : (Rows.exprChecksRow.lifted == Tryz.prog.liftsFinal) = true := by kernel_rfl
theorem jf_make : (Tryz.prog.make == some Rows.exprChecksRow.make) = true := by kernel_rfl
theorem and_i {a b : Bool} (h1 : a = true) (h2 : b = true) : (a && b) = true := by rw [h1, h2]; rfl
theorem exprChecks_joined : joinedFacts Tryz.prog 3 Tryz.f3 Rows.exprChecksSpec Rows.exprChecksRow = true := by
  unfold joinedFacts
  exact (and_i (and_i (and_i (and_i (and_i (and_i (and_i (and_i (and_i (and_i (and_i (and_i (and_i (and_i (and_i (and_i (and_i (and_i (and_i (and_i (and_i (and_i (and_i (and_i (and_i (and_i (and_i (and_i (and_i (and_i (and_i (by kernel_rfl) jf_laid) jf_rowed) (by kernel_rfl)) (by kernel_rfl)) (by kernel_rfl)) jf_stops) (by kernel_rfl)) jf_knobs) jf_inPlace) jf_unfollowed) jf_recurses) jf_named) (by kernel_rfl)) (by kernel_rfl)) (by kernel_rfl)) (by kernel_rfl)) (by kernel_rfl)) (by kernel_rfl)) (by kernel_rfl)) (by kernel_rfl)) (by kernel_rfl)) jf_plain) (by kernel_rfl)) jf_heard) jf_enter) jf_lifted) jf_make) (by kernel_rfl)) (by kernel_rfl)) (by kernel_rfl)) (by kernel_rfl))
theorem exprChecks_named : Tryz.prog.funcNamed "understory/understorylaw23.ExprChecks" = some 3 := by kernel_rfl
theorem tryz_main : Tryz.pinned.checked.prog.mainIs = some (true, "2d7692be5541b3e613b3dfd8af561a0c2ec286e0ede7ab0ef98489d4cefc276b".toList) := by kernel_rfl
theorem exprChecks_goes : false = Rows.exprChecksRow.goesBy Tryz.pinned.checked.prog := by kernel_rfl
end Go.Proofs.YteehkgkgpogffaaGreatDoor
