/-
  A part of the proof: CardLc.
-/
import Derived.Test.YtjiendlfobjanaaGreatDoorH09
namespace Go.Proofs.YtjiendlfobjanaaGreatDoor
open Go.ChangeShapes Go.WideShapes Go.ChangeAt Go.RowKit
set_option maxRecDepth 100000
theorem h_inPlace:(Rows.filterLaddersRow.inPlace==Tryz.pinned.checked.prog.inPlace 7)=true:=kR
theorem h_unf:(Rows.filterLaddersRow.unfollowed==Tryz.pinned.checked.prog.unfollowed 7)=true:=kR
theorem h_rec:(Rows.filterLaddersRow.recurses==Tryz.pinned.checked.prog.recurses 7)=true:=kR
theorem h_vars:(Rows.filterLaddersRow.named==Tryz.pinned.checked.prog.varsNamed 7)=true:=kR
theorem h_closed:joinedFacts Tryz.pinned.checked.prog 7 Tryz.f7 (OpenSpec.ofChange Rows.filterLaddersSpec).bare Rows.filterLaddersRow=true:=by
 unfold joinedFacts;rw [h_inPlace,h_unf,h_rec,h_vars]
 kernel_rfl
end Go.Proofs.YtjiendlfobjanaaGreatDoor
