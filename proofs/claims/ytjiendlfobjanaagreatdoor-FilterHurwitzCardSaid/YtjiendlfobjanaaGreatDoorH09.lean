/-
  A part of the proof: CardHc.
-/
import Derived.Test.YtjiendlfobjanaaGreatDoorH08
namespace Go.Proofs.YtjiendlfobjanaaGreatDoor
open Go.ChangeShapes Go.WideShapes Go.ChangeAt Go.RowKit
set_option maxRecDepth 100000
theorem h_inPlace : (Rows.filterHurwitzRow.inPlace == Tryz.pinned.checked.prog.inPlace 3) = true := by kernel_rfl
theorem h_unf : (Rows.filterHurwitzRow.unfollowed == Tryz.pinned.checked.prog.unfollowed 3) = true := by kernel_rfl
theorem h_rec : (Rows.filterHurwitzRow.recurses == Tryz.pinned.checked.prog.recurses 3) = true := by kernel_rfl
theorem h_vars : (Rows.filterHurwitzRow.named == Tryz.pinned.checked.prog.varsNamed 3) = true := by kernel_rfl
theorem h_closed : joinedFacts Tryz.pinned.checked.prog 3 Tryz.f3 (OpenSpec.ofChange Rows.filterHurwitzSpec).bare Rows.filterHurwitzRow = true := by
 unfold joinedFacts; rw [h_inPlace, h_unf, h_rec, h_vars]
 kernel_rfl
end Go.Proofs.YtjiendlfobjanaaGreatDoor
