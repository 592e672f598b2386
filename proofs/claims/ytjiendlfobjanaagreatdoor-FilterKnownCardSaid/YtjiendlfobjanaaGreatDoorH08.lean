/-
  A part of the proof: CardKb.
-/
import Derived.Test.YtjiendlfobjanaaGreatDoorH07
namespace Go.Proofs.YtjiendlfobjanaaGreatDoor
open Go.ChangeShapes Go.WideShapes Go.ChangeAt Go.RowKit
set_option maxRecDepth 100000
theorem zNB:Tryz.pinned.checked.prog.funcNamed Rows.filterKnownRow.func=some 12:=by kernel_rfl
theorem h_inst:Tryz.f12.isInstance Tryz.pinned.checked.prog Rows.filterKnownRow.origin Rows.filterKnownRow.targs:=of_decide_eq_true (by kernel_rfl)
theorem h_wrap:Tryz.f12.isWrapper Tryz.pinned.checked.prog Rows.filterKnownRow.wrapper Rows.filterKnownRow.mainSum:=by unfold Func.isWrapper;first | (rw [if_pos (by decide +kernel)];kernel_rfl) | (rw [if_neg (by decide +kernel)];exact ⟨rfl,rfl⟩)
end Go.Proofs.YtjiendlfobjanaaGreatDoor
