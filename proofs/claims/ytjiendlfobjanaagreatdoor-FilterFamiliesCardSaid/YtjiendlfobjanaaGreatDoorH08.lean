/-
  A part of the proof: CardFb.
-/
import Derived.Test.YtjiendlfobjanaaGreatDoorH07
namespace Go.Proofs.YtjiendlfobjanaaGreatDoor
open Go.ChangeShapes Go.WideShapes Go.ChangeAt Go.RowKit
set_option maxRecDepth 100000
theorem zMs:Tryz.pinned.checked.prog.funcNamed Rows.filterFamiliesRow.func=some 8:=by kernel_rfl
theorem h_inst:Tryz.f8.isInstance Tryz.pinned.checked.prog Rows.filterFamiliesRow.origin Rows.filterFamiliesRow.targs:=of_decide_eq_true (by kernel_rfl)
theorem h_wrap:Tryz.f8.isWrapper Tryz.pinned.checked.prog Rows.filterFamiliesRow.wrapper Rows.filterFamiliesRow.mainSum:=by unfold Func.isWrapper;first | (rw [if_pos (by decide +kernel)];kernel_rfl) | (rw [if_neg (by decide +kernel)];exact ⟨rfl,rfl⟩)
end Go.Proofs.YtjiendlfobjanaaGreatDoor
