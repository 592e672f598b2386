/-
  A part of the proof: CardCb.
-/
import Derived.Test.YtjiendlfobjanaaGreatDoorH07
namespace Go.Proofs.YtjiendlfobjanaaGreatDoor
open Go.ChangeShapes Go.WideShapes Go.ChangeAt Go.RowKit
set_option maxRecDepth 100000
theorem zMS:Tryz.pinned.checked.prog.funcNamed Rows.filterSectionsRow.func=some 6:=by kernel_rfl
theorem h_inst:Tryz.f6.isInstance Tryz.pinned.checked.prog Rows.filterSectionsRow.origin Rows.filterSectionsRow.targs:=of_decide_eq_true (by kernel_rfl)
theorem h_wrap:Tryz.f6.isWrapper Tryz.pinned.checked.prog Rows.filterSectionsRow.wrapper Rows.filterSectionsRow.mainSum:=by unfold Func.isWrapper;first | (rw [if_pos (by decide +kernel)];kernel_rfl) | (rw [if_neg (by decide +kernel)];exact ⟨rfl,rfl⟩)
end Go.Proofs.YtjiendlfobjanaaGreatDoor
