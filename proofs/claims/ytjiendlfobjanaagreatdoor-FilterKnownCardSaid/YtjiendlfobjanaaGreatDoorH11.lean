/-
  What FilterKnown returns: true.
-/
import Derived.Test.YtjiendlfobjanaaGreatDoorH10
namespace Go.Proofs.YtjiendlfobjanaaGreatDoor
open Go.ChangeShapes Go.WideShapes Go.ChangeAt Go.RowKit
set_option maxRecDepth 100000
theorem h_wf:Rows.filterKnownRow.wfByText (OpenSpec.ofChange Rows.filterKnownSpec)=true:=by kernel_rfl
theorem h_main:Tryz.pinned.checked.prog.mainIs=some (true, "eb0414f9660315dbd1e8ea93f59d185e4efc1e9bba59bb6a4eb87dda91127d4c".toList):=by kernel_rfl
theorem h_goes:false=Rows.filterKnownRow.goesBy Tryz.pinned.checked.prog:=by kernel_rfl
theorem known_card:Rows.FilterKnownCardSaid :=
 Claim7.holds_tied_plain_at .later [] _ _ _ _ said (fun _ h=>by cases h) h_wf (fun _ h=>by cases h) filterKnown_row_tie rfl ⟨rfl,rfl⟩ h_main rfl plain h_goes
end Go.Proofs.YtjiendlfobjanaaGreatDoor
