/-
  A part of the proof: CardCc.
-/
import Derived.Test.YtjiendlfobjanaaGreatDoorH08
namespace Go.Proofs.YtjiendlfobjanaaGreatDoor
open Go.ChangeShapes Go.WideShapes Go.ChangeAt Go.RowKit
set_option maxRecDepth 100000
theorem h_inPlace:(Rows.filterSectionsRow.inPlace==Tryz.pinned.checked.prog.inPlace 6)=true:=by kernel_rfl
theorem h_unf:(Rows.filterSectionsRow.unfollowed==Tryz.pinned.checked.prog.unfollowed 6)=true:=by kernel_rfl
theorem h_rec:(Rows.filterSectionsRow.recurses==Tryz.pinned.checked.prog.recurses 6)=true:=by kernel_rfl
theorem h_vars:(Rows.filterSectionsRow.named==Tryz.pinned.checked.prog.varsNamed 6)=true:=by kernel_rfl
theorem h_closed:joinedFacts Tryz.pinned.checked.prog 6 Tryz.f6 (OpenSpec.ofChange Rows.filterSectionsSpec).bare Rows.filterSectionsRow=true:=by
 unfold joinedFacts;rw [h_inPlace,h_unf,h_rec,h_vars]
 kernel_rfl
end Go.Proofs.YtjiendlfobjanaaGreatDoor
