/-
  FilterFamilies: for every input the law returns true, and the input reads as it did. No conditions but those of the given row.
-/
import Derived.Test.YtjiendlfobjanaaGreatDoorH10
namespace Go.Proofs.YtjiendlfobjanaaGreatDoor
open Go.ChangeShapes Go.WideShapes Go.ChangeAt Go.RowKit
set_option maxRecDepth 100000
theorem h_wf:Rows.filterFamiliesRow.wfByText (OpenSpec.ofChange Rows.filterFamiliesSpec)=true:=by kernel_rfl
theorem h_main:Tryz.pinned.checked.prog.mainIs=some (true, "eb0414f9660315dbd1e8ea93f59d185e4efc1e9bba59bb6a4eb87dda91127d4c".toList):=by kernel_rfl
theorem h_goes:false=Rows.filterFamiliesRow.goesBy Tryz.pinned.checked.prog:=by kernel_rfl
theorem families_card:Rows.FilterFamiliesCardSaid :=
 Claim7.holds_tied_plain_at .later [] _ _ _ _ said (fun _ h=>by cases h) h_wf (fun _ h=>by cases h) filterFamilies_row_tie rfl ⟨rfl,rfl⟩ h_main rfl plain h_goes
end Go.Proofs.YtjiendlfobjanaaGreatDoor
