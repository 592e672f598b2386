/-
  A part of the proof: CardDc.
-/
import Derived.Test.YtjiendlfobjanaaGreatDoorH08
namespace Go.Proofs.YtjiendlfobjanaaGreatDoor
open Go.ChangeShapes Go.WideShapes Go.ChangeAt Go.RowKit
set_option maxRecDepth 100000
theorem h_inPlace:(Rows.filterDiscreteRow.inPlace==Tryz.pinned.checked.prog.inPlace 9)=true:=by kernel_rfl
theorem h_unf:(Rows.filterDiscreteRow.unfollowed==Tryz.pinned.checked.prog.unfollowed 9)=true:=by kernel_rfl
theorem h_rec:(Rows.filterDiscreteRow.recurses==Tryz.pinned.checked.prog.recurses 9)=true:=by kernel_rfl
theorem h_vars:(Rows.filterDiscreteRow.named==Tryz.pinned.checked.prog.varsNamed 9)=true:=by kernel_rfl
theorem h_closed:joinedFacts Tryz.pinned.checked.prog 9 Tryz.f9 (OpenSpec.ofChange Rows.filterDiscreteSpec).bare Rows.filterDiscreteRow=true:=by
 unfold joinedFacts;rw [h_inPlace,h_unf,h_rec,h_vars]
 kernel_rfl
end Go.Proofs.YtjiendlfobjanaaGreatDoor
