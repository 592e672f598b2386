/-
  DERIVED. GIVEN WITH THE SEED: THE CARDS: each row of YtjiendlfobjanaaGreatDoorRows.lean that lists a variable, with what it lists TIED to the program's text (the seventh form; the later family's looks); each row that meets fmt, with fmt's text TOLD by the authors' own Lean function (tested against real Go, not proved from fmt's source: count such statements apart). THE CARD IS WHAT COUNTS. Prove the row's statement (the work); the ties are given (YtjiendlfobjanaaGreatDoorTie.lean); close each card by the builder's one call (the guide's Derived/Test/ToyasCard.lean, 'card_holds'). Laid BY PROGRAM, IN A SANDBOX (cutbox-door.mjs). By AI agents, Wed Nov 11 2026. No macro, syntax, notation, axiom, sorry.
-/
import Derived.Test.YtjiendlfobjanaaGreatDoorRows
import GoSem.ClaimSeven
namespace Go.Proofs.YtjiendlfobjanaaGreatDoor
namespace Rows

/-- THE TIED CARD OF 'pentodelaw08.FilterHurwitz'. -/
def filterHurwitzCard : Claim7 := { stood := { row := filterHurwitzRow, standIns := [], harness := (true, "eb0414f9660315dbd1e8ea93f59d185e4efc1e9bba59bb6a4eb87dda91127d4c"), looks := false }, kinds := [], alts := [], laidByText := true, laidKinds := [.data, .data, .data, .data, .pinned], laidTests := true, laidLooks := .later }
def FilterHurwitzCardSaid : Prop := Claim7.holds Tryz.pinned (.plain (OpenSpec.ofChange filterHurwitzSpec)) filterHurwitzCard

/-- THE TIED CARD OF 'pentodelaw08.FilterMeets'. -/
def filterMeetsCard : Claim7 := { stood := { row := filterMeetsRow, standIns := [], harness := (true, "eb0414f9660315dbd1e8ea93f59d185e4efc1e9bba59bb6a4eb87dda91127d4c"), looks := false }, kinds := [], alts := [], laidByText := true, laidKinds := [.data, .data, .data, .data, .pinned], laidTests := true, laidLooks := .later }
def FilterMeetsCardSaid : Prop := Claim7.holds Tryz.pinned (.plain (OpenSpec.ofChange filterMeetsSpec)) filterMeetsCard

/-- THE TIED CARD OF 'pentodelaw08.FilterShifts'. -/
def filterShiftsCard : Claim7 := { stood := { row := filterShiftsRow, standIns := [], harness := (true, "eb0414f9660315dbd1e8ea93f59d185e4efc1e9bba59bb6a4eb87dda91127d4c"), looks := false }, kinds := [], alts := [], laidByText := true, laidKinds := [.data, .data, .data, .data, .pinned], laidTests := true, laidLooks := .later }
def FilterShiftsCardSaid : Prop := Claim7.holds Tryz.pinned (.plain (OpenSpec.ofChange filterShiftsSpec)) filterShiftsCard

/-- THE TIED CARD OF 'pentodelaw08.FilterSections'. -/
def filterSectionsCard : Claim7 := { stood := { row := filterSectionsRow, standIns := [], harness := (true, "eb0414f9660315dbd1e8ea93f59d185e4efc1e9bba59bb6a4eb87dda91127d4c"), looks := false }, kinds := [], alts := [], laidByText := true, laidKinds := [.data, .data, .data, .data, .pinned], laidTests := true, laidLooks := .later }
def FilterSectionsCardSaid : Prop := Claim7.holds Tryz.pinned (.plain (OpenSpec.ofChange filterSectionsSpec)) filterSectionsCard

/-- THE TIED CARD OF 'pentodelaw08.FilterLadders'. -/
def filterLaddersCard : Claim7 := { stood := { row := filterLaddersRow, standIns := [], harness := (true, "eb0414f9660315dbd1e8ea93f59d185e4efc1e9bba59bb6a4eb87dda91127d4c"), looks := false }, kinds := [], alts := [], laidByText := true, laidKinds := [.data, .data, .data, .data, .pinned], laidTests := true, laidLooks := .later }
def FilterLaddersCardSaid : Prop := Claim7.holds Tryz.pinned (.plain (OpenSpec.ofChange filterLaddersSpec)) filterLaddersCard

/-- THE TIED CARD OF 'pentodelaw08.FilterFamilies'. -/
def filterFamiliesCard : Claim7 := { stood := { row := filterFamiliesRow, standIns := [], harness := (true, "eb0414f9660315dbd1e8ea93f59d185e4efc1e9bba59bb6a4eb87dda91127d4c"), looks := false }, kinds := [], alts := [], laidByText := true, laidKinds := [.data, .data, .data, .data, .pinned], laidTests := true, laidLooks := .later }
def FilterFamiliesCardSaid : Prop := Claim7.holds Tryz.pinned (.plain (OpenSpec.ofChange filterFamiliesSpec)) filterFamiliesCard

/-- THE TIED CARD OF 'pentodelaw08.FilterDiscrete'. -/
def filterDiscreteCard : Claim7 := { stood := { row := filterDiscreteRow, standIns := [], harness := (true, "eb0414f9660315dbd1e8ea93f59d185e4efc1e9bba59bb6a4eb87dda91127d4c"), looks := false }, kinds := [], alts := [], laidByText := true, laidKinds := [.data, .data, .data, .data, .pinned], laidTests := true, laidLooks := .later }
def FilterDiscreteCardSaid : Prop := Claim7.holds Tryz.pinned (.plain (OpenSpec.ofChange filterDiscreteSpec)) filterDiscreteCard

/-- THE TIED CARD OF 'pentodelaw08.FilterProves'. -/
def filterProvesCard : Claim7 := { stood := { row := filterProvesRow, standIns := [], harness := (true, "eb0414f9660315dbd1e8ea93f59d185e4efc1e9bba59bb6a4eb87dda91127d4c"), looks := false }, kinds := [], alts := [], laidByText := true, laidKinds := [.data, .data, .data, .data, .pinned], laidTests := true, laidLooks := .later }
def FilterProvesCardSaid : Prop := Claim7.holds Tryz.pinned (.plain (OpenSpec.ofChange filterProvesSpec)) filterProvesCard

/-- THE TIED CARD OF 'pentodelaw08.FilterSure'. -/
def filterSureCard : Claim7 := { stood := { row := filterSureRow, standIns := [], harness := (true, "eb0414f9660315dbd1e8ea93f59d185e4efc1e9bba59bb6a4eb87dda91127d4c"), looks := false }, kinds := [], alts := [], laidByText := true, laidKinds := [.data, .data, .data, .data, .pinned], laidTests := true, laidLooks := .later }
def FilterSureCardSaid : Prop := Claim7.holds Tryz.pinned (.plain (OpenSpec.ofChange filterSureSpec)) filterSureCard

/-- THE TIED CARD OF 'pentodelaw08.FilterKnown'. -/
def filterKnownCard : Claim7 := { stood := { row := filterKnownRow, standIns := [], harness := (true, "eb0414f9660315dbd1e8ea93f59d185e4efc1e9bba59bb6a4eb87dda91127d4c"), looks := false }, kinds := [], alts := [], laidByText := true, laidKinds := [.data, .data, .data, .data, .pinned], laidTests := true, laidLooks := .later }
def FilterKnownCardSaid : Prop := Claim7.holds Tryz.pinned (.plain (OpenSpec.ofChange filterKnownSpec)) filterKnownCard

/-- THE SECOND FORM's CARD OF 'pentodelaw08.FilterHurwitz'. -/
def filterHurwitzUptoCard : Claim7 := { stood := { row := filterHurwitzUptoRow, standIns := [], harness := (true, "eb0414f9660315dbd1e8ea93f59d185e4efc1e9bba59bb6a4eb87dda91127d4c"), looks := false }, kinds := [], alts := [], laidByText := true, laidKinds := [.data, .data, .data, .data, .pinned], laidTests := true, laidLooks := .later }
def FilterHurwitzUptoCardSaid : Prop := Claim7.holds Tryz.pinned (.plain (OpenSpec.upto filterHurwitzSpec)) filterHurwitzUptoCard

/-- THE SECOND FORM's CARD OF 'pentodelaw08.FilterMeets'. -/
def filterMeetsUptoCard : Claim7 := { stood := { row := filterMeetsUptoRow, standIns := [], harness := (true, "eb0414f9660315dbd1e8ea93f59d185e4efc1e9bba59bb6a4eb87dda91127d4c"), looks := false }, kinds := [], alts := [], laidByText := true, laidKinds := [.data, .data, .data, .data, .pinned], laidTests := true, laidLooks := .later }
def FilterMeetsUptoCardSaid : Prop := Claim7.holds Tryz.pinned (.plain (OpenSpec.upto filterMeetsSpec)) filterMeetsUptoCard

/-- THE SECOND FORM's CARD OF 'pentodelaw08.FilterShifts'. -/
def filterShiftsUptoCard : Claim7 := { stood := { row := filterShiftsUptoRow, standIns := [], harness := (true, "eb0414f9660315dbd1e8ea93f59d185e4efc1e9bba59bb6a4eb87dda91127d4c"), looks := false }, kinds := [], alts := [], laidByText := true, laidKinds := [.data, .data, .data, .data, .pinned], laidTests := true, laidLooks := .later }
def FilterShiftsUptoCardSaid : Prop := Claim7.holds Tryz.pinned (.plain (OpenSpec.upto filterShiftsSpec)) filterShiftsUptoCard

/-- THE SECOND FORM's CARD OF 'pentodelaw08.FilterSections'. -/
def filterSectionsUptoCard : Claim7 := { stood := { row := filterSectionsUptoRow, standIns := [], harness := (true, "eb0414f9660315dbd1e8ea93f59d185e4efc1e9bba59bb6a4eb87dda91127d4c"), looks := false }, kinds := [], alts := [], laidByText := true, laidKinds := [.data, .data, .data, .data, .pinned], laidTests := true, laidLooks := .later }
def FilterSectionsUptoCardSaid : Prop := Claim7.holds Tryz.pinned (.plain (OpenSpec.upto filterSectionsSpec)) filterSectionsUptoCard

/-- THE SECOND FORM's CARD OF 'pentodelaw08.FilterLadders'. -/
def filterLaddersUptoCard : Claim7 := { stood := { row := filterLaddersUptoRow, standIns := [], harness := (true, "eb0414f9660315dbd1e8ea93f59d185e4efc1e9bba59bb6a4eb87dda91127d4c"), looks := false }, kinds := [], alts := [], laidByText := true, laidKinds := [.data, .data, .data, .data, .pinned], laidTests := true, laidLooks := .later }
def FilterLaddersUptoCardSaid : Prop := Claim7.holds Tryz.pinned (.plain (OpenSpec.upto filterLaddersSpec)) filterLaddersUptoCard

/-- THE SECOND FORM's CARD OF 'pentodelaw08.FilterFamilies'. -/
def filterFamiliesUptoCard : Claim7 := { stood := { row := filterFamiliesUptoRow, standIns := [], harness := (true, "eb0414f9660315dbd1e8ea93f59d185e4efc1e9bba59bb6a4eb87dda91127d4c"), looks := false }, kinds := [], alts := [], laidByText := true, laidKinds := [.data, .data, .data, .data, .pinned], laidTests := true, laidLooks := .later }
def FilterFamiliesUptoCardSaid : Prop := Claim7.holds Tryz.pinned (.plain (OpenSpec.upto filterFamiliesSpec)) filterFamiliesUptoCard

/-- THE SECOND FORM's CARD OF 'pentodelaw08.FilterDiscrete'. -/
def filterDiscreteUptoCard : Claim7 := { stood := { row := filterDiscreteUptoRow, standIns := [], harness := (true, "eb0414f9660315dbd1e8ea93f59d185e4efc1e9bba59bb6a4eb87dda91127d4c"), looks := false }, kinds := [], alts := [], laidByText := true, laidKinds := [.data, .data, .data, .data, .pinned], laidTests := true, laidLooks := .later }
def FilterDiscreteUptoCardSaid : Prop := Claim7.holds Tryz.pinned (.plain (OpenSpec.upto filterDiscreteSpec)) filterDiscreteUptoCard

/-- THE SECOND FORM's CARD OF 'pentodelaw08.FilterProves'. -/
def filterProvesUptoCard : Claim7 := { stood := { row := filterProvesUptoRow, standIns := [], harness := (true, "eb0414f9660315dbd1e8ea93f59d185e4efc1e9bba59bb6a4eb87dda91127d4c"), looks := false }, kinds := [], alts := [], laidByText := true, laidKinds := [.data, .data, .data, .data, .pinned], laidTests := true, laidLooks := .later }
def FilterProvesUptoCardSaid : Prop := Claim7.holds Tryz.pinned (.plain (OpenSpec.upto filterProvesSpec)) filterProvesUptoCard

/-- THE SECOND FORM's CARD OF 'pentodelaw08.FilterSure'. -/
def filterSureUptoCard : Claim7 := { stood := { row := filterSureUptoRow, standIns := [], harness := (true, "eb0414f9660315dbd1e8ea93f59d185e4efc1e9bba59bb6a4eb87dda91127d4c"), looks := false }, kinds := [], alts := [], laidByText := true, laidKinds := [.data, .data, .data, .data, .pinned], laidTests := true, laidLooks := .later }
def FilterSureUptoCardSaid : Prop := Claim7.holds Tryz.pinned (.plain (OpenSpec.upto filterSureSpec)) filterSureUptoCard

/-- THE SECOND FORM's CARD OF 'pentodelaw08.FilterKnown'. -/
def filterKnownUptoCard : Claim7 := { stood := { row := filterKnownUptoRow, standIns := [], harness := (true, "eb0414f9660315dbd1e8ea93f59d185e4efc1e9bba59bb6a4eb87dda91127d4c"), looks := false }, kinds := [], alts := [], laidByText := true, laidKinds := [.data, .data, .data, .data, .pinned], laidTests := true, laidLooks := .later }
def FilterKnownUptoCardSaid : Prop := Claim7.holds Tryz.pinned (.plain (OpenSpec.upto filterKnownSpec)) filterKnownUptoCard
end Rows
end Go.Proofs.YtjiendlfobjanaaGreatDoor
