/-
  FilterDiscrete: there and back is a multiple by 2 to the n; a polynomial is Hurwitz exactly if its transform has all roots inside the unit circle; Schur tells all roots (lists of at most 10 numbers of at most 40 bytes, as the law asks).
-/
import Derived.Test.YtjiendlfobjanaaGreatDoorH10
namespace Go.Proofs.YtjiendlfobjanaaGreatDoor
open Go.ChangeShapes Go.WideShapes Go.ChangeAt Go.RowKit
set_option maxRecDepth 100000
theorem h_wf:Rows.filterDiscreteRow.wfByText (OpenSpec.ofChange Rows.filterDiscreteSpec)=true:=by kernel_rfl
theorem h_main:Tryz.pinned.checked.prog.mainIs=some (true, "eb0414f9660315dbd1e8ea93f59d185e4efc1e9bba59bb6a4eb87dda91127d4c".toList):=by kernel_rfl
theorem h_goes:false=Rows.filterDiscreteRow.goesBy Tryz.pinned.checked.prog:=by kernel_rfl
theorem discrete_card:Rows.FilterDiscreteCardSaid :=
 Claim7.holds_tied_plain_at .later [] _ _ _ _ said (fun _ h=>by cases h) h_wf (fun _ h=>by cases h) filterDiscrete_row_tie rfl ⟨rfl,rfl⟩ h_main rfl plain h_goes
end Go.Proofs.YtjiendlfobjanaaGreatDoor
