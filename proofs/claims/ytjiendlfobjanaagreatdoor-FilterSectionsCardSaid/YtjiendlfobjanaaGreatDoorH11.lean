/-
  FilterSections: Chain of the program answers as the document's Chain does, whatever the input.
-/
import Derived.Test.YtjiendlfobjanaaGreatDoorH10
namespace Go.Proofs.YtjiendlfobjanaaGreatDoor
open Go.ChangeShapes Go.WideShapes Go.ChangeAt Go.RowKit
set_option maxRecDepth 100000
theorem h_wf:Rows.filterSectionsRow.wfByText (OpenSpec.ofChange Rows.filterSectionsSpec)=true:=by kernel_rfl
theorem h_main:Tryz.pinned.checked.prog.mainIs=some (true, "eb0414f9660315dbd1e8ea93f59d185e4efc1e9bba59bb6a4eb87dda91127d4c".toList):=by kernel_rfl
theorem h_goes:false=Rows.filterSectionsRow.goesBy Tryz.pinned.checked.prog:=by kernel_rfl
theorem sections_card:Rows.FilterSectionsCardSaid :=
 Claim7.holds_tied_plain_at .later [] _ _ _ _ said (fun _ h=>by cases h) h_wf (fun _ h=>by cases h) filterSections_row_tie rfl ⟨rfl,rfl⟩ h_main rfl plain h_goes
end Go.Proofs.YtjiendlfobjanaaGreatDoor
