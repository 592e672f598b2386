/-
  FilterLadders (the document's chapter 8): Fraction, Ladder and Net return what the document says, for lists as in FilterFamilies (at most 24 numbers, or more than 41, of at most 40 bytes each); the theorem is ladders_card, and it has no other conditions.
-/
import Derived.Test.YtjiendlfobjanaaGreatDoorH11
namespace Go.Proofs.YtjiendlfobjanaaGreatDoor
open Go.ChangeShapes Go.WideShapes Go.ChangeAt Go.RowKit
set_option maxRecDepth 100000
theorem h_wf:Rows.filterLaddersRow.wfByText (OpenSpec.ofChange Rows.filterLaddersSpec)=true:=kR
theorem h_main:Tryz.pinned.checked.prog.mainIs=some (true, "eb0414f9660315dbd1e8ea93f59d185e4efc1e9bba59bb6a4eb87dda91127d4c".toList):=kR
theorem h_goes:false=Rows.filterLaddersRow.goesBy Tryz.pinned.checked.prog:=kR
theorem ladders_card:Rows.FilterLaddersCardSaid :=
 Claim7.holds_tied_plain_at .later [] _ _ _ _ said (fun _ h=>by cases h) h_wf (fun _ h=>by cases h) filterLadders_row_tie rfl ⟨rfl,rfl⟩ h_main rfl plain h_goes
end Go.Proofs.YtjiendlfobjanaaGreatDoor
