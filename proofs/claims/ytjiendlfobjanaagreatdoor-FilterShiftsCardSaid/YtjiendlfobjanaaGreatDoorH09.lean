/-
  A part of the proof: CardSc.
-/
import Derived.Test.YtjiendlfobjanaaGreatDoorH08
namespace Go.Proofs.YtjiendlfobjanaaGreatDoor
open Go.ChangeShapes Go.WideShapes Go.ChangeAt Go.RowKit
set_option maxRecDepth 100000
theorem h_inPlace : (Rows.filterShiftsRow.inPlace == Tryz.pinned.checked.prog.inPlace 5) = true := by kernel_rfl
theorem h_unf : (Rows.filterShiftsRow.unfollowed == Tryz.pinned.checked.prog.unfollowed 5) = true := by kernel_rfl
theorem h_rec : (Rows.filterShiftsRow.recurses == Tryz.pinned.checked.prog.recurses 5) = true := by kernel_rfl
theorem h_vars : (Rows.filterShiftsRow.named == Tryz.pinned.checked.prog.varsNamed 5) = true := by kernel_rfl
theorem h_closed : joinedFacts Tryz.pinned.checked.prog 5 Tryz.f5 (OpenSpec.ofChange Rows.filterShiftsSpec).bare Rows.filterShiftsRow = true := by
 unfold joinedFacts;rw [h_inPlace,h_unf,h_rec,h_vars]
 kernel_rfl
end Go.Proofs.YtjiendlfobjanaaGreatDoor
