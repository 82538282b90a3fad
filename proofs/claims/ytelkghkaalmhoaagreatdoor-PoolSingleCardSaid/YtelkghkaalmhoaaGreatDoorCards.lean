/-
  DERIVED. GIVEN WITH THE SEED: THE CARDS: each row of YtelkghkaalmhoaaGreatDoorRows.lean that lists a variable, with what it lists TIED to the program's text (the seventh form; the later family's looks); each row that meets fmt, with fmt's text TOLD by the authors' own Lean function (tested against real Go, not proved from fmt's source: count such statements apart). THE CARD IS WHAT COUNTS. Prove the row's statement (the work); the ties are given (YtelkghkaalmhoaaGreatDoorTie.lean); close each card by the builder's one call (the guide's Derived/Test/ToyasCard.lean, 'card_holds'). Laid BY PROGRAM, IN A SANDBOX (cutbox-door.mjs). By AI agents, Wed Nov 11 2026. No macro, syntax, notation, axiom, sorry.
-/
import Derived.Test.YtelkghkaalmhoaaGreatDoorRows
import GoSem.ClaimSeven
namespace Go.Proofs.YtelkghkaalmhoaaGreatDoor
namespace Rows

/-- THE TIED CARD OF 'estafettelaw17.PoolOrder'. -/
def poolOrderCard : Claim7 := { stood := { row := poolOrderRow, standIns := [], harness := (true, "22e04499ec2811a9971280b3ad21ac9166df571022f161f8736acf530a5f4d1f"), looks := true }, kinds := [], alts := [], laidByText := true, laidKinds := [.data, .data, .data, .data, .sentinel, .sentinel, .pinned], laidTests := true, laidLooks := .later }
def PoolOrderCardSaid : Prop := Claim7.holds Tryz.pinned (.plain (OpenSpec.ofChange poolOrderSpec)) poolOrderCard

/-- THE TIED CARD OF 'estafettelaw17.PoolRest'. -/
def poolRestCard : Claim7 := { stood := { row := poolRestRow, standIns := [], harness := (true, "22e04499ec2811a9971280b3ad21ac9166df571022f161f8736acf530a5f4d1f"), looks := true }, kinds := [], alts := [], laidByText := true, laidKinds := [.data, .data, .data, .data, .sentinel, .sentinel, .pinned], laidTests := true, laidLooks := .later }
def PoolRestCardSaid : Prop := Claim7.holds Tryz.pinned (.plain (OpenSpec.ofChange poolRestSpec)) poolRestCard

/-- THE TIED CARD OF 'estafettelaw17.PoolModel'. -/
def poolModelCard : Claim7 := { stood := { row := poolModelRow, standIns := [], harness := (true, "22e04499ec2811a9971280b3ad21ac9166df571022f161f8736acf530a5f4d1f"), looks := true }, kinds := [], alts := [], laidByText := true, laidKinds := [.data, .data, .data, .data, .sentinel, .sentinel, .pinned], laidTests := true, laidLooks := .later }
def PoolModelCardSaid : Prop := Claim7.holds Tryz.pinned (.plain (OpenSpec.ofChange poolModelSpec)) poolModelCard

/-- THE TIED CARD OF 'estafettelaw17.PoolOnce'. -/
def poolOnceCard : Claim7 := { stood := { row := poolOnceRow, standIns := [], harness := (true, "22e04499ec2811a9971280b3ad21ac9166df571022f161f8736acf530a5f4d1f"), looks := true }, kinds := [], alts := [], laidByText := true, laidKinds := [.data, .data, .data, .data, .sentinel, .sentinel, .pinned], laidTests := true, laidLooks := .later }
def PoolOnceCardSaid : Prop := Claim7.holds Tryz.pinned (.plain (OpenSpec.ofChange poolOnceSpec)) poolOnceCard

/-- THE TIED CARD OF 'estafettelaw17.PoolMove'. -/
def poolMoveCard : Claim7 := { stood := { row := poolMoveRow, standIns := [], harness := (true, "22e04499ec2811a9971280b3ad21ac9166df571022f161f8736acf530a5f4d1f"), looks := true }, kinds := [], alts := [], laidByText := true, laidKinds := [.data, .data, .data, .data, .sentinel, .sentinel, .pinned], laidTests := true, laidLooks := .later }
def PoolMoveCardSaid : Prop := Claim7.holds Tryz.pinned (.plain (OpenSpec.ofChange poolMoveSpec)) poolMoveCard

/-- THE TIED CARD OF 'estafettelaw17.PoolClash'. -/
def poolClashCard : Claim7 := { stood := { row := poolClashRow, standIns := [], harness := (true, "22e04499ec2811a9971280b3ad21ac9166df571022f161f8736acf530a5f4d1f"), looks := true }, kinds := [], alts := [], laidByText := true, laidKinds := [.data, .data, .data, .data, .sentinel, .sentinel, .pinned], laidTests := true, laidLooks := .later }
def PoolClashCardSaid : Prop := Claim7.holds Tryz.pinned (.plain (OpenSpec.ofChange poolClashSpec)) poolClashCard

/-- THE TIED CARD OF 'estafettelaw17.PoolSingle'. -/
def poolSingleCard : Claim7 := { stood := { row := poolSingleRow, standIns := [], harness := (true, "22e04499ec2811a9971280b3ad21ac9166df571022f161f8736acf530a5f4d1f"), looks := true }, kinds := [], alts := [], laidByText := true, laidKinds := [.data, .data, .data, .data, .sentinel, .sentinel, .pinned], laidTests := true, laidLooks := .later }
def PoolSingleCardSaid : Prop := Claim7.holds Tryz.pinned (.plain (OpenSpec.ofChange poolSingleSpec)) poolSingleCard

/-- THE TIED CARD OF 'estafettelaw17.PoolWork'. -/
def poolWorkCard : Claim7 := { stood := { row := poolWorkRow, standIns := [], harness := (true, "22e04499ec2811a9971280b3ad21ac9166df571022f161f8736acf530a5f4d1f"), looks := true }, kinds := [], alts := [], laidByText := true, laidKinds := [.data, .data, .data, .data, .sentinel, .sentinel, .pinned], laidTests := true, laidLooks := .later }
def PoolWorkCardSaid : Prop := Claim7.holds Tryz.pinned (.plain (OpenSpec.ofChange poolWorkSpec)) poolWorkCard

/-- THE TIED CARD OF 'estafettelaw17.PoolGroup'. -/
def poolGroupCard : Claim7 := { stood := { row := poolGroupRow, standIns := [], harness := (true, "22e04499ec2811a9971280b3ad21ac9166df571022f161f8736acf530a5f4d1f"), looks := true }, kinds := [], alts := [], laidByText := true, laidKinds := [.data, .data, .data, .data, .sentinel, .sentinel, .pinned], laidTests := true, laidLooks := .later }
def PoolGroupCardSaid : Prop := Claim7.holds Tryz.pinned (.plain (OpenSpec.ofChange poolGroupSpec)) poolGroupCard

/-- THE SECOND FORM's CARD OF 'estafettelaw17.PoolOrder'. -/
def poolOrderUptoCard : Claim7 := { stood := { row := poolOrderUptoRow, standIns := [], harness := (true, "22e04499ec2811a9971280b3ad21ac9166df571022f161f8736acf530a5f4d1f"), looks := true }, kinds := [], alts := [], laidByText := true, laidKinds := [.data, .data, .data, .data, .sentinel, .sentinel, .pinned], laidTests := true, laidLooks := .later }
def PoolOrderUptoCardSaid : Prop := Claim7.holds Tryz.pinned (.plain (OpenSpec.upto poolOrderSpec)) poolOrderUptoCard

/-- THE SECOND FORM's CARD OF 'estafettelaw17.PoolRest'. -/
def poolRestUptoCard : Claim7 := { stood := { row := poolRestUptoRow, standIns := [], harness := (true, "22e04499ec2811a9971280b3ad21ac9166df571022f161f8736acf530a5f4d1f"), looks := true }, kinds := [], alts := [], laidByText := true, laidKinds := [.data, .data, .data, .data, .sentinel, .sentinel, .pinned], laidTests := true, laidLooks := .later }
def PoolRestUptoCardSaid : Prop := Claim7.holds Tryz.pinned (.plain (OpenSpec.upto poolRestSpec)) poolRestUptoCard

/-- THE SECOND FORM's CARD OF 'estafettelaw17.PoolModel'. -/
def poolModelUptoCard : Claim7 := { stood := { row := poolModelUptoRow, standIns := [], harness := (true, "22e04499ec2811a9971280b3ad21ac9166df571022f161f8736acf530a5f4d1f"), looks := true }, kinds := [], alts := [], laidByText := true, laidKinds := [.data, .data, .data, .data, .sentinel, .sentinel, .pinned], laidTests := true, laidLooks := .later }
def PoolModelUptoCardSaid : Prop := Claim7.holds Tryz.pinned (.plain (OpenSpec.upto poolModelSpec)) poolModelUptoCard

/-- THE SECOND FORM's CARD OF 'estafettelaw17.PoolOnce'. -/
def poolOnceUptoCard : Claim7 := { stood := { row := poolOnceUptoRow, standIns := [], harness := (true, "22e04499ec2811a9971280b3ad21ac9166df571022f161f8736acf530a5f4d1f"), looks := true }, kinds := [], alts := [], laidByText := true, laidKinds := [.data, .data, .data, .data, .sentinel, .sentinel, .pinned], laidTests := true, laidLooks := .later }
def PoolOnceUptoCardSaid : Prop := Claim7.holds Tryz.pinned (.plain (OpenSpec.upto poolOnceSpec)) poolOnceUptoCard

/-- THE SECOND FORM's CARD OF 'estafettelaw17.PoolMove'. -/
def poolMoveUptoCard : Claim7 := { stood := { row := poolMoveUptoRow, standIns := [], harness := (true, "22e04499ec2811a9971280b3ad21ac9166df571022f161f8736acf530a5f4d1f"), looks := true }, kinds := [], alts := [], laidByText := true, laidKinds := [.data, .data, .data, .data, .sentinel, .sentinel, .pinned], laidTests := true, laidLooks := .later }
def PoolMoveUptoCardSaid : Prop := Claim7.holds Tryz.pinned (.plain (OpenSpec.upto poolMoveSpec)) poolMoveUptoCard

/-- THE SECOND FORM's CARD OF 'estafettelaw17.PoolClash'. -/
def poolClashUptoCard : Claim7 := { stood := { row := poolClashUptoRow, standIns := [], harness := (true, "22e04499ec2811a9971280b3ad21ac9166df571022f161f8736acf530a5f4d1f"), looks := true }, kinds := [], alts := [], laidByText := true, laidKinds := [.data, .data, .data, .data, .sentinel, .sentinel, .pinned], laidTests := true, laidLooks := .later }
def PoolClashUptoCardSaid : Prop := Claim7.holds Tryz.pinned (.plain (OpenSpec.upto poolClashSpec)) poolClashUptoCard

/-- THE SECOND FORM's CARD OF 'estafettelaw17.PoolSingle'. -/
def poolSingleUptoCard : Claim7 := { stood := { row := poolSingleUptoRow, standIns := [], harness := (true, "22e04499ec2811a9971280b3ad21ac9166df571022f161f8736acf530a5f4d1f"), looks := true }, kinds := [], alts := [], laidByText := true, laidKinds := [.data, .data, .data, .data, .sentinel, .sentinel, .pinned], laidTests := true, laidLooks := .later }
def PoolSingleUptoCardSaid : Prop := Claim7.holds Tryz.pinned (.plain (OpenSpec.upto poolSingleSpec)) poolSingleUptoCard

/-- THE SECOND FORM's CARD OF 'estafettelaw17.PoolWork'. -/
def poolWorkUptoCard : Claim7 := { stood := { row := poolWorkUptoRow, standIns := [], harness := (true, "22e04499ec2811a9971280b3ad21ac9166df571022f161f8736acf530a5f4d1f"), looks := true }, kinds := [], alts := [], laidByText := true, laidKinds := [.data, .data, .data, .data, .sentinel, .sentinel, .pinned], laidTests := true, laidLooks := .later }
def PoolWorkUptoCardSaid : Prop := Claim7.holds Tryz.pinned (.plain (OpenSpec.upto poolWorkSpec)) poolWorkUptoCard

/-- THE SECOND FORM's CARD OF 'estafettelaw17.PoolGroup'. -/
def poolGroupUptoCard : Claim7 := { stood := { row := poolGroupUptoRow, standIns := [], harness := (true, "22e04499ec2811a9971280b3ad21ac9166df571022f161f8736acf530a5f4d1f"), looks := true }, kinds := [], alts := [], laidByText := true, laidKinds := [.data, .data, .data, .data, .sentinel, .sentinel, .pinned], laidTests := true, laidLooks := .later }
def PoolGroupUptoCardSaid : Prop := Claim7.holds Tryz.pinned (.plain (OpenSpec.upto poolGroupSpec)) poolGroupUptoCard
end Rows
end Go.Proofs.YtelkghkaalmhoaaGreatDoor
