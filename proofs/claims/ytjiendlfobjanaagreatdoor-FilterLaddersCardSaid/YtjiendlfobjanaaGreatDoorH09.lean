/-
  A part of the proof: CardLb.
-/
import Derived.Test.YtjiendlfobjanaaGreatDoorH08
namespace Go.Proofs.YtjiendlfobjanaaGreatDoor
open Go.ChangeShapes Go.WideShapes Go.ChangeAt Go.RowKit
set_option maxRecDepth 100000
theorem zSp:Tryz.pinned.checked.prog.funcNamed Rows.filterLaddersRow.func=some 7:=kR
theorem h_inst:Tryz.f7.isInstance Tryz.pinned.checked.prog Rows.filterLaddersRow.origin Rows.filterLaddersRow.targs:=dh kR
theorem h_wrap:Tryz.f7.isWrapper Tryz.pinned.checked.prog Rows.filterLaddersRow.wrapper Rows.filterLaddersRow.mainSum:=by unfold Func.isWrapper;first | (rw [cD dK];kernel_rfl) | (rw [ct dK];exact ⟨rfl,rfl⟩)
end Go.Proofs.YtjiendlfobjanaaGreatDoor
