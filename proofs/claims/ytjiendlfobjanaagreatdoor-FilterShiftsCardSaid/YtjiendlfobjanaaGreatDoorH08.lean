/-
  A part of the proof: CardSb.
-/
import Derived.Test.YtjiendlfobjanaaGreatDoorH07
namespace Go.Proofs.YtjiendlfobjanaaGreatDoor
open Go.ChangeShapes Go.WideShapes Go.ChangeAt Go.RowKit
set_option maxRecDepth 100000
theorem h_named : Tryz.pinned.checked.prog.funcNamed Rows.filterShiftsRow.func = some 5 := by kernel_rfl
theorem h_inst : Tryz.f5.isInstance Tryz.pinned.checked.prog Rows.filterShiftsRow.origin Rows.filterShiftsRow.targs := of_decide_eq_true (by kernel_rfl)
theorem h_wrap : Tryz.f5.isWrapper Tryz.pinned.checked.prog Rows.filterShiftsRow.wrapper Rows.filterShiftsRow.mainSum := by unfold Func.isWrapper;first | (rw [if_pos (by decide +kernel)];kernel_rfl) | (rw [if_neg (by decide +kernel)];exact ⟨rfl,rfl⟩)
end Go.Proofs.YtjiendlfobjanaaGreatDoor
