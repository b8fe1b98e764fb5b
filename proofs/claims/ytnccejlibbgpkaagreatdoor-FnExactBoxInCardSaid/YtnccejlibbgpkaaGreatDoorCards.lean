/-
  DERIVED. GIVEN WITH THE SEED: THE CARDS: each row of YtnccejlibbgpkaaGreatDoorRows.lean that lists a variable, with what it lists TIED to the program's text (the seventh form; the later family's looks); each row that meets fmt, with fmt's text TOLD by the authors' own Lean function (tested against real Go, not proved from fmt's source: count such statements apart). THE CARD IS WHAT COUNTS. Prove the row's statement (the work); the ties are given (YtnccejlibbgpkaaGreatDoorTie.lean); close each card by the builder's one call (the guide's Derived/Test/ToyasCard.lean, 'card_holds'). Laid BY PROGRAM, IN A SANDBOX (cutbox-door.mjs). By AI agents, Wed Nov 11 2026. No macro, syntax, notation, axiom, sorry.
-/
import Derived.Test.YtnccejlibbgpkaaGreatDoorRows
import GoSem.ClaimSeven
namespace Go.Proofs.YtnccejlibbgpkaaGreatDoor
namespace Rows

/-- THE TIED CARD OF 'laws.FnBoxRoom'. -/
def fnBoxRoomCard : Claim7 := { stood := { row := fnBoxRoomRow, standIns := [], harness := (true, "c2fbee9bb79843c0e5bcabefdd336e1964043c389972583b35c774b1b2370534"), looks := true }, kinds := [], alts := [], goes := true, laidByText := true, laidKinds := [.data, .data, .data, .sentinel, .sentinel, .sentinel], laidTests := true, laidLooks := .later }
def FnBoxRoomCardSaid : Prop := Claim7.holds Tryz.pinned (.plain (OpenSpec.ofChange fnBoxRoomSpec)) fnBoxRoomCard

/-- THE TIED CARD OF 'laws.FnBoxGap'. -/
def fnBoxGapCard : Claim7 := { stood := { row := fnBoxGapRow, standIns := [], harness := (true, "c2fbee9bb79843c0e5bcabefdd336e1964043c389972583b35c774b1b2370534"), looks := true }, kinds := [], alts := [], goes := true, laidByText := true, laidKinds := [.data, .data, .data, .sentinel, .sentinel, .sentinel], laidTests := true, laidLooks := .later }
def FnBoxGapCardSaid : Prop := Claim7.holds Tryz.pinned (.plain (OpenSpec.ofChange fnBoxGapSpec)) fnBoxGapCard

/-- THE TIED CARD OF 'laws.FnBoxIn'. -/
def fnBoxInCard : Claim7 := { stood := { row := fnBoxInRow, standIns := [], harness := (true, "c2fbee9bb79843c0e5bcabefdd336e1964043c389972583b35c774b1b2370534"), looks := true }, kinds := [], alts := [], goes := true, laidByText := true, laidKinds := [.data, .data, .data, .sentinel, .sentinel, .sentinel], laidTests := true, laidLooks := .later }
def FnBoxInCardSaid : Prop := Claim7.holds Tryz.pinned (.plain (OpenSpec.ofChange fnBoxInSpec)) fnBoxInCard

/-- THE TIED CARD OF 'laws.FnBoxOut'. -/
def fnBoxOutCard : Claim7 := { stood := { row := fnBoxOutRow, standIns := [], harness := (true, "c2fbee9bb79843c0e5bcabefdd336e1964043c389972583b35c774b1b2370534"), looks := true }, kinds := [], alts := [], goes := true, laidByText := true, laidKinds := [.data, .data, .data, .sentinel, .sentinel, .sentinel], laidTests := true, laidLooks := .later }
def FnBoxOutCardSaid : Prop := Claim7.holds Tryz.pinned (.plain (OpenSpec.ofChange fnBoxOutSpec)) fnBoxOutCard

/-- THE TIED CARD OF 'laws.FnBoxTwice'. -/
def fnBoxTwiceCard : Claim7 := { stood := { row := fnBoxTwiceRow, standIns := [], harness := (true, "c2fbee9bb79843c0e5bcabefdd336e1964043c389972583b35c774b1b2370534"), looks := true }, kinds := [], alts := [], goes := true, laidByText := true, laidKinds := [.data, .data, .data, .sentinel, .sentinel, .sentinel], laidTests := true, laidLooks := .later }
def FnBoxTwiceCardSaid : Prop := Claim7.holds Tryz.pinned (.plain (OpenSpec.ofChange fnBoxTwiceSpec)) fnBoxTwiceCard

/-- THE TIED CARD OF 'laws.FnBoxIdle'. -/
def fnBoxIdleCard : Claim7 := { stood := { row := fnBoxIdleRow, standIns := [], harness := (true, "c2fbee9bb79843c0e5bcabefdd336e1964043c389972583b35c774b1b2370534"), looks := true }, kinds := [], alts := [], goes := true, laidByText := true, laidKinds := [.data, .data, .data, .sentinel, .sentinel, .sentinel], laidTests := true, laidLooks := .later }
def FnBoxIdleCardSaid : Prop := Claim7.holds Tryz.pinned (.plain (OpenSpec.ofChange fnBoxIdleSpec)) fnBoxIdleCard

/-- THE TIED CARD OF 'laws.FnBoxNear'. -/
def fnBoxNearCard : Claim7 := { stood := { row := fnBoxNearRow, standIns := [], harness := (true, "c2fbee9bb79843c0e5bcabefdd336e1964043c389972583b35c774b1b2370534"), looks := true }, kinds := [], alts := [], goes := true, laidByText := true, laidKinds := [.data, .data, .data, .sentinel, .sentinel, .sentinel], laidTests := true, laidLooks := .later }
def FnBoxNearCardSaid : Prop := Claim7.holds Tryz.pinned (.plain (OpenSpec.ofChange fnBoxNearSpec)) fnBoxNearCard

/-- THE TIED CARD OF 'laws.FnExactBoxIn'. -/
def fnExactBoxInCard : Claim7 := { stood := { row := fnExactBoxInRow, standIns := [], harness := (true, "c2fbee9bb79843c0e5bcabefdd336e1964043c389972583b35c774b1b2370534"), looks := true }, kinds := [], alts := [], goes := true, laidByText := true, laidKinds := [.data, .data, .data, .sentinel, .sentinel, .sentinel], laidTests := true, laidLooks := .later }
def FnExactBoxInCardSaid : Prop := Claim7.holds Tryz.pinned (.plain (OpenSpec.ofChange fnExactBoxInSpec)) fnExactBoxInCard

/-- THE TIED CARD OF 'laws.FnExactBoxOut'. -/
def fnExactBoxOutCard : Claim7 := { stood := { row := fnExactBoxOutRow, standIns := [], harness := (true, "c2fbee9bb79843c0e5bcabefdd336e1964043c389972583b35c774b1b2370534"), looks := true }, kinds := [], alts := [], goes := true, laidByText := true, laidKinds := [.data, .data, .data, .sentinel, .sentinel, .sentinel], laidTests := true, laidLooks := .later }
def FnExactBoxOutCardSaid : Prop := Claim7.holds Tryz.pinned (.plain (OpenSpec.ofChange fnExactBoxOutSpec)) fnExactBoxOutCard

/-- THE SECOND FORM's CARD OF 'laws.FnBoxRoom'. -/
def fnBoxRoomUptoCard : Claim7 := { stood := { row := fnBoxRoomUptoRow, standIns := [], harness := (true, "c2fbee9bb79843c0e5bcabefdd336e1964043c389972583b35c774b1b2370534"), looks := true }, kinds := [], alts := [], goes := true, laidByText := true, laidKinds := [.data, .data, .data, .sentinel, .sentinel, .sentinel], laidTests := true, laidLooks := .later }
def FnBoxRoomUptoCardSaid : Prop := Claim7.holds Tryz.pinned (.plain (OpenSpec.upto fnBoxRoomSpec)) fnBoxRoomUptoCard

/-- THE SECOND FORM's CARD OF 'laws.FnBoxGap'. -/
def fnBoxGapUptoCard : Claim7 := { stood := { row := fnBoxGapUptoRow, standIns := [], harness := (true, "c2fbee9bb79843c0e5bcabefdd336e1964043c389972583b35c774b1b2370534"), looks := true }, kinds := [], alts := [], goes := true, laidByText := true, laidKinds := [.data, .data, .data, .sentinel, .sentinel, .sentinel], laidTests := true, laidLooks := .later }
def FnBoxGapUptoCardSaid : Prop := Claim7.holds Tryz.pinned (.plain (OpenSpec.upto fnBoxGapSpec)) fnBoxGapUptoCard

/-- THE SECOND FORM's CARD OF 'laws.FnBoxIn'. -/
def fnBoxInUptoCard : Claim7 := { stood := { row := fnBoxInUptoRow, standIns := [], harness := (true, "c2fbee9bb79843c0e5bcabefdd336e1964043c389972583b35c774b1b2370534"), looks := true }, kinds := [], alts := [], goes := true, laidByText := true, laidKinds := [.data, .data, .data, .sentinel, .sentinel, .sentinel], laidTests := true, laidLooks := .later }
def FnBoxInUptoCardSaid : Prop := Claim7.holds Tryz.pinned (.plain (OpenSpec.upto fnBoxInSpec)) fnBoxInUptoCard

/-- THE SECOND FORM's CARD OF 'laws.FnBoxOut'. -/
def fnBoxOutUptoCard : Claim7 := { stood := { row := fnBoxOutUptoRow, standIns := [], harness := (true, "c2fbee9bb79843c0e5bcabefdd336e1964043c389972583b35c774b1b2370534"), looks := true }, kinds := [], alts := [], goes := true, laidByText := true, laidKinds := [.data, .data, .data, .sentinel, .sentinel, .sentinel], laidTests := true, laidLooks := .later }
def FnBoxOutUptoCardSaid : Prop := Claim7.holds Tryz.pinned (.plain (OpenSpec.upto fnBoxOutSpec)) fnBoxOutUptoCard

/-- THE SECOND FORM's CARD OF 'laws.FnBoxTwice'. -/
def fnBoxTwiceUptoCard : Claim7 := { stood := { row := fnBoxTwiceUptoRow, standIns := [], harness := (true, "c2fbee9bb79843c0e5bcabefdd336e1964043c389972583b35c774b1b2370534"), looks := true }, kinds := [], alts := [], goes := true, laidByText := true, laidKinds := [.data, .data, .data, .sentinel, .sentinel, .sentinel], laidTests := true, laidLooks := .later }
def FnBoxTwiceUptoCardSaid : Prop := Claim7.holds Tryz.pinned (.plain (OpenSpec.upto fnBoxTwiceSpec)) fnBoxTwiceUptoCard

/-- THE SECOND FORM's CARD OF 'laws.FnBoxIdle'. -/
def fnBoxIdleUptoCard : Claim7 := { stood := { row := fnBoxIdleUptoRow, standIns := [], harness := (true, "c2fbee9bb79843c0e5bcabefdd336e1964043c389972583b35c774b1b2370534"), looks := true }, kinds := [], alts := [], goes := true, laidByText := true, laidKinds := [.data, .data, .data, .sentinel, .sentinel, .sentinel], laidTests := true, laidLooks := .later }
def FnBoxIdleUptoCardSaid : Prop := Claim7.holds Tryz.pinned (.plain (OpenSpec.upto fnBoxIdleSpec)) fnBoxIdleUptoCard

/-- THE SECOND FORM's CARD OF 'laws.FnBoxNear'. -/
def fnBoxNearUptoCard : Claim7 := { stood := { row := fnBoxNearUptoRow, standIns := [], harness := (true, "c2fbee9bb79843c0e5bcabefdd336e1964043c389972583b35c774b1b2370534"), looks := true }, kinds := [], alts := [], goes := true, laidByText := true, laidKinds := [.data, .data, .data, .sentinel, .sentinel, .sentinel], laidTests := true, laidLooks := .later }
def FnBoxNearUptoCardSaid : Prop := Claim7.holds Tryz.pinned (.plain (OpenSpec.upto fnBoxNearSpec)) fnBoxNearUptoCard

/-- THE SECOND FORM's CARD OF 'laws.FnExactBoxIn'. -/
def fnExactBoxInUptoCard : Claim7 := { stood := { row := fnExactBoxInUptoRow, standIns := [], harness := (true, "c2fbee9bb79843c0e5bcabefdd336e1964043c389972583b35c774b1b2370534"), looks := true }, kinds := [], alts := [], goes := true, laidByText := true, laidKinds := [.data, .data, .data, .sentinel, .sentinel, .sentinel], laidTests := true, laidLooks := .later }
def FnExactBoxInUptoCardSaid : Prop := Claim7.holds Tryz.pinned (.plain (OpenSpec.upto fnExactBoxInSpec)) fnExactBoxInUptoCard

/-- THE SECOND FORM's CARD OF 'laws.FnExactBoxOut'. -/
def fnExactBoxOutUptoCard : Claim7 := { stood := { row := fnExactBoxOutUptoRow, standIns := [], harness := (true, "c2fbee9bb79843c0e5bcabefdd336e1964043c389972583b35c774b1b2370534"), looks := true }, kinds := [], alts := [], goes := true, laidByText := true, laidKinds := [.data, .data, .data, .sentinel, .sentinel, .sentinel], laidTests := true, laidLooks := .later }
def FnExactBoxOutUptoCardSaid : Prop := Claim7.holds Tryz.pinned (.plain (OpenSpec.upto fnExactBoxOutSpec)) fnExactBoxOutUptoCard
end Rows
end Go.Proofs.YtnccejlibbgpkaaGreatDoor
