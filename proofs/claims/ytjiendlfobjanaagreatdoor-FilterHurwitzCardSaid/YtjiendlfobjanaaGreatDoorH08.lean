/-
  A part of the proof: CardHb.
-/
import Derived.Test.YtjiendlfobjanaaGreatDoorH07
namespace Go.Proofs.YtjiendlfobjanaaGreatDoor
open Go.ChangeShapes Go.WideShapes Go.ChangeAt Go.RowKit
set_option maxRecDepth 100000
theorem h_named : Tryz.pinned.checked.prog.funcNamed Rows.filterHurwitzRow.func = some 3 := by kernel_rfl
theorem h_inst : Tryz.f3.isInstance Tryz.pinned.checked.prog Rows.filterHurwitzRow.origin Rows.filterHurwitzRow.targs := of_decide_eq_true (by kernel_rfl)
theorem h_wrap : Tryz.f3.isWrapper Tryz.pinned.checked.prog Rows.filterHurwitzRow.wrapper Rows.filterHurwitzRow.mainSum := by unfold Func.isWrapper; first | (rw [if_pos (by decide +kernel)]; kernel_rfl) | (rw [if_neg (by decide +kernel)]; exact ⟨rfl, rfl⟩)
end Go.Proofs.YtjiendlfobjanaaGreatDoor
