/-
  A part of the proof: CardDb.
-/
import Derived.Test.YtjiendlfobjanaaGreatDoorH07
namespace Go.Proofs.YtjiendlfobjanaaGreatDoor
open Go.ChangeShapes Go.WideShapes Go.ChangeAt Go.RowKit
set_option maxRecDepth 100000
theorem zOQ:Tryz.pinned.checked.prog.funcNamed Rows.filterDiscreteRow.func=some 9:=by kernel_rfl
theorem h_inst:Tryz.f9.isInstance Tryz.pinned.checked.prog Rows.filterDiscreteRow.origin Rows.filterDiscreteRow.targs:=of_decide_eq_true (by kernel_rfl)
theorem h_wrap:Tryz.f9.isWrapper Tryz.pinned.checked.prog Rows.filterDiscreteRow.wrapper Rows.filterDiscreteRow.mainSum:=by unfold Func.isWrapper;first | (rw [if_pos (by decide +kernel)];kernel_rfl) | (rw [if_neg (by decide +kernel)];exact ⟨rfl,rfl⟩)
end Go.Proofs.YtjiendlfobjanaaGreatDoor
