/-
  A part of the proof: CardKc.
-/
import Derived.Test.YtjiendlfobjanaaGreatDoorH08
namespace Go.Proofs.YtjiendlfobjanaaGreatDoor
open Go.ChangeShapes Go.WideShapes Go.ChangeAt Go.RowKit
set_option maxRecDepth 100000
theorem h_inPlace:(Rows.filterKnownRow.inPlace==Tryz.pinned.checked.prog.inPlace 12)=true:=by kernel_rfl
theorem h_unf:(Rows.filterKnownRow.unfollowed==Tryz.pinned.checked.prog.unfollowed 12)=true:=by kernel_rfl
theorem h_rec:(Rows.filterKnownRow.recurses==Tryz.pinned.checked.prog.recurses 12)=true:=by kernel_rfl
theorem h_vars:(Rows.filterKnownRow.named==Tryz.pinned.checked.prog.varsNamed 12)=true:=by kernel_rfl
theorem h_closed:joinedFacts Tryz.pinned.checked.prog 12 Tryz.f12 (OpenSpec.ofChange Rows.filterKnownSpec).bare Rows.filterKnownRow=true:=by
 unfold joinedFacts;rw [h_inPlace,h_unf,h_rec,h_vars]
 kernel_rfl
end Go.Proofs.YtjiendlfobjanaaGreatDoor
