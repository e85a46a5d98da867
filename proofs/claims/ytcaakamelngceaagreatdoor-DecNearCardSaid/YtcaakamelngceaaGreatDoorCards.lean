/-
  DERIVED. GIVEN WITH THE SEED: THE CARDS: each row of YtcaakamelngceaaGreatDoorRows.lean that lists a variable, with what it lists TIED to the program's text (the seventh form; the later family's looks); each row that meets fmt, with fmt's text TOLD by the authors' own Lean function (tested against real Go, not proved from fmt's source: count such statements apart). THE CARD IS WHAT COUNTS. Prove the row's statement (the work); the ties are given (YtcaakamelngceaaGreatDoorTie.lean); close each card by the builder's one call (the guide's Derived/Test/ToyasCard.lean, 'card_holds'). Laid BY PROGRAM, IN A SANDBOX (cutbox-door.mjs). By AI agents, Wed Nov 11 2026. No macro, syntax, notation, axiom, sorry.
-/
import Derived.Test.YtcaakamelngceaaGreatDoorRows
import GoSem.ClaimSeven
namespace Go.Proofs.YtcaakamelngceaaGreatDoor
namespace Rows

/-- THE TIED CARD OF 'tallagelaw06.DecReads'. -/
def decReadsCard : Claim7 := { stood := { row := decReadsRow, standIns := [], harness := (true, "047b46798bbc5b63bda4858d95ffdd782a74a9ef909710dd423cfb68a66a0938"), looks := true }, kinds := [], alts := [], laidByText := true, laidKinds := [.data, .data, .data, .data, .sentinel, .sentinel, .pinned], laidTests := true, laidLooks := .later }
def DecReadsCardSaid : Prop := Claim7.holds Tryz.pinned (.plain (OpenSpec.ofChange decReadsSpec)) decReadsCard

/-- THE TIED CARD OF 'tallagelaw06.DecPuts'. -/
def decPutsCard : Claim7 := { stood := { row := decPutsRow, standIns := [], harness := (true, "047b46798bbc5b63bda4858d95ffdd782a74a9ef909710dd423cfb68a66a0938"), looks := true }, kinds := [], alts := [], laidByText := true, laidKinds := [.data, .data, .data, .data, .sentinel, .sentinel, .pinned], laidTests := true, laidLooks := .later }
def DecPutsCardSaid : Prop := Claim7.holds Tryz.pinned (.plain (OpenSpec.ofChange decPutsSpec)) decPutsCard

/-- THE TIED CARD OF 'tallagelaw06.DecNear'. -/
def decNearCard : Claim7 := { stood := { row := decNearRow, standIns := [], harness := (true, "047b46798bbc5b63bda4858d95ffdd782a74a9ef909710dd423cfb68a66a0938"), looks := true }, kinds := [], alts := [], laidByText := true, laidKinds := [.data, .data, .data, .data, .sentinel, .sentinel, .pinned], laidTests := true, laidLooks := .later }
def DecNearCardSaid : Prop := Claim7.holds Tryz.pinned (.plain (OpenSpec.ofChange decNearSpec)) decNearCard

/-- THE TIED CARD OF 'tallagelaw06.DecKnown'. -/
def decKnownCard : Claim7 := { stood := { row := decKnownRow, standIns := [], harness := (true, "047b46798bbc5b63bda4858d95ffdd782a74a9ef909710dd423cfb68a66a0938"), looks := true }, kinds := [], alts := [], laidByText := true, laidKinds := [.data, .data, .data, .data, .sentinel, .sentinel, .pinned], laidTests := true, laidLooks := .later }
def DecKnownCardSaid : Prop := Claim7.holds Tryz.pinned (.plain (OpenSpec.ofChange decKnownSpec)) decKnownCard

/-- THE SECOND FORM's CARD OF 'tallagelaw06.DecReads'. -/
def decReadsUptoCard : Claim7 := { stood := { row := decReadsUptoRow, standIns := [], harness := (true, "047b46798bbc5b63bda4858d95ffdd782a74a9ef909710dd423cfb68a66a0938"), looks := true }, kinds := [], alts := [], laidByText := true, laidKinds := [.data, .data, .data, .data, .sentinel, .sentinel, .pinned], laidTests := true, laidLooks := .later }
def DecReadsUptoCardSaid : Prop := Claim7.holds Tryz.pinned (.plain (OpenSpec.upto decReadsSpec)) decReadsUptoCard

/-- THE SECOND FORM's CARD OF 'tallagelaw06.DecPuts'. -/
def decPutsUptoCard : Claim7 := { stood := { row := decPutsUptoRow, standIns := [], harness := (true, "047b46798bbc5b63bda4858d95ffdd782a74a9ef909710dd423cfb68a66a0938"), looks := true }, kinds := [], alts := [], laidByText := true, laidKinds := [.data, .data, .data, .data, .sentinel, .sentinel, .pinned], laidTests := true, laidLooks := .later }
def DecPutsUptoCardSaid : Prop := Claim7.holds Tryz.pinned (.plain (OpenSpec.upto decPutsSpec)) decPutsUptoCard

/-- THE SECOND FORM's CARD OF 'tallagelaw06.DecNear'. -/
def decNearUptoCard : Claim7 := { stood := { row := decNearUptoRow, standIns := [], harness := (true, "047b46798bbc5b63bda4858d95ffdd782a74a9ef909710dd423cfb68a66a0938"), looks := true }, kinds := [], alts := [], laidByText := true, laidKinds := [.data, .data, .data, .data, .sentinel, .sentinel, .pinned], laidTests := true, laidLooks := .later }
def DecNearUptoCardSaid : Prop := Claim7.holds Tryz.pinned (.plain (OpenSpec.upto decNearSpec)) decNearUptoCard

/-- THE SECOND FORM's CARD OF 'tallagelaw06.DecKnown'. -/
def decKnownUptoCard : Claim7 := { stood := { row := decKnownUptoRow, standIns := [], harness := (true, "047b46798bbc5b63bda4858d95ffdd782a74a9ef909710dd423cfb68a66a0938"), looks := true }, kinds := [], alts := [], laidByText := true, laidKinds := [.data, .data, .data, .data, .sentinel, .sentinel, .pinned], laidTests := true, laidLooks := .later }
def DecKnownUptoCardSaid : Prop := Claim7.holds Tryz.pinned (.plain (OpenSpec.upto decKnownSpec)) decKnownUptoCard
end Rows
end Go.Proofs.YtcaakamelngceaaGreatDoor
