/-
  DERIVED. GIVEN WITH THE SEED: THE CARDS: each row of YteggpgndiajdpaaDoorRows.lean that lists a variable, with what it lists TIED to the program's text (the seventh form; the later family's looks); each row that meets fmt, with fmt's text TOLD by the authors' own Lean function (tested against real Go, not proved from fmt's source: count such statements apart). THE CARD IS WHAT COUNTS. Prove the row's statement (the work); the ties are given (YteggpgndiajdpaaDoorTie.lean); close each card by the builder's one call (the guide's Derived/Test/ToyasCard.lean, 'card_holds'). Laid BY PROGRAM, IN A SANDBOX (cutbox-door.mjs). By AI agents, Wed Nov 11 2026. No macro, syntax, notation, axiom, sorry.
-/
import Derived.Test.YteggpgndiajdpaaDoorRows
import GoSem.ClaimSeven
namespace Go.Proofs.YteggpgndiajdpaaDoor
namespace Rows

/-- THE TIED CARD OF 'tallagelaw03.BigReckons'. -/
def bigReckonsCard : Claim7 := { stood := { row := bigReckonsRow, standIns := [], harness := (true, "262ad76ea49a02d6e9afd9e30ab11ab16b634bc1ec5f4f20b92e069f440d5cb8"), looks := true }, kinds := [], alts := [], laidByText := true, laidKinds := [.data, .pinned], laidTests := true, laidLooks := .later }
def BigReckonsCardSaid : Prop := Claim7.holds Tryd.pinned (.plain (OpenSpec.ofChange bigReckonsSpec)) bigReckonsCard

/-- THE TIED CARD OF 'tallagelaw03.BigSums'. -/
def bigSumsCard : Claim7 := { stood := { row := bigSumsRow, standIns := [], harness := (true, "262ad76ea49a02d6e9afd9e30ab11ab16b634bc1ec5f4f20b92e069f440d5cb8"), looks := true }, kinds := [], alts := [], laidByText := true, laidKinds := [.data, .pinned], laidTests := true, laidLooks := .later }
def BigSumsCardSaid : Prop := Claim7.holds Tryd.pinned (.plain (OpenSpec.ofChange bigSumsSpec)) bigSumsCard

/-- THE TIED CARD OF 'tallagelaw02.NatDivMod'. -/
def natDivModCard : Claim7 := { stood := { row := natDivModRow, standIns := [], harness := (true, "262ad76ea49a02d6e9afd9e30ab11ab16b634bc1ec5f4f20b92e069f440d5cb8"), looks := true }, kinds := [], alts := [], laidByText := true, laidKinds := [.data, .data, .data, .data, .sentinel, .sentinel, .pinned], laidTests := true, laidLooks := .later }
def NatDivModCardSaid : Prop := Claim7.holds Tryd.pinned (.plain (OpenSpec.ofChange natDivModSpec)) natDivModCard

/-- THE TIED CARD OF 'tallagelaw02.NatBack'. -/
def natBackCard : Claim7 := { stood := { row := natBackRow, standIns := [], harness := (true, "262ad76ea49a02d6e9afd9e30ab11ab16b634bc1ec5f4f20b92e069f440d5cb8"), looks := true }, kinds := [], alts := [], laidByText := true, laidKinds := [.data, .data, .data, .data, .sentinel, .sentinel, .pinned], laidTests := true, laidLooks := .later }
def NatBackCardSaid : Prop := Claim7.holds Tryd.pinned (.plain (OpenSpec.ofChange natBackSpec)) natBackCard

/-- THE TIED CARD OF 'tallagelaw02.NatMul'. -/
def natMulCard : Claim7 := { stood := { row := natMulRow, standIns := [], harness := (true, "262ad76ea49a02d6e9afd9e30ab11ab16b634bc1ec5f4f20b92e069f440d5cb8"), looks := true }, kinds := [], alts := [], laidByText := true, laidKinds := [.data, .data, .data, .data, .sentinel, .sentinel, .pinned], laidTests := true, laidLooks := .later }
def NatMulCardSaid : Prop := Claim7.holds Tryd.pinned (.plain (OpenSpec.ofChange natMulSpec)) natMulCard

/-- THE TIED CARD OF 'tallagelaw02.NatParts'. -/
def natPartsCard : Claim7 := { stood := { row := natPartsRow, standIns := [], harness := (true, "262ad76ea49a02d6e9afd9e30ab11ab16b634bc1ec5f4f20b92e069f440d5cb8"), looks := true }, kinds := [], alts := [], laidByText := true, laidKinds := [.data, .data, .data, .data, .sentinel, .sentinel, .pinned], laidTests := true, laidLooks := .later }
def NatPartsCardSaid : Prop := Claim7.holds Tryd.pinned (.plain (OpenSpec.ofChange natPartsSpec)) natPartsCard

/-- THE SECOND FORM's CARD OF 'tallagelaw03.BigReckons'. -/
def bigReckonsUptoCard : Claim7 := { stood := { row := bigReckonsUptoRow, standIns := [], harness := (true, "262ad76ea49a02d6e9afd9e30ab11ab16b634bc1ec5f4f20b92e069f440d5cb8"), looks := true }, kinds := [], alts := [], laidByText := true, laidKinds := [.data, .pinned], laidTests := true, laidLooks := .later }
def BigReckonsUptoCardSaid : Prop := Claim7.holds Tryd.pinned (.plain (OpenSpec.upto bigReckonsSpec)) bigReckonsUptoCard

/-- THE SECOND FORM's CARD OF 'tallagelaw03.BigSums'. -/
def bigSumsUptoCard : Claim7 := { stood := { row := bigSumsUptoRow, standIns := [], harness := (true, "262ad76ea49a02d6e9afd9e30ab11ab16b634bc1ec5f4f20b92e069f440d5cb8"), looks := true }, kinds := [], alts := [], laidByText := true, laidKinds := [.data, .pinned], laidTests := true, laidLooks := .later }
def BigSumsUptoCardSaid : Prop := Claim7.holds Tryd.pinned (.plain (OpenSpec.upto bigSumsSpec)) bigSumsUptoCard

/-- THE SECOND FORM's CARD OF 'tallagelaw02.NatDivMod'. -/
def natDivModUptoCard : Claim7 := { stood := { row := natDivModUptoRow, standIns := [], harness := (true, "262ad76ea49a02d6e9afd9e30ab11ab16b634bc1ec5f4f20b92e069f440d5cb8"), looks := true }, kinds := [], alts := [], laidByText := true, laidKinds := [.data, .data, .data, .data, .sentinel, .sentinel, .pinned], laidTests := true, laidLooks := .later }
def NatDivModUptoCardSaid : Prop := Claim7.holds Tryd.pinned (.plain (OpenSpec.upto natDivModSpec)) natDivModUptoCard

/-- THE SECOND FORM's CARD OF 'tallagelaw02.NatBack'. -/
def natBackUptoCard : Claim7 := { stood := { row := natBackUptoRow, standIns := [], harness := (true, "262ad76ea49a02d6e9afd9e30ab11ab16b634bc1ec5f4f20b92e069f440d5cb8"), looks := true }, kinds := [], alts := [], laidByText := true, laidKinds := [.data, .data, .data, .data, .sentinel, .sentinel, .pinned], laidTests := true, laidLooks := .later }
def NatBackUptoCardSaid : Prop := Claim7.holds Tryd.pinned (.plain (OpenSpec.upto natBackSpec)) natBackUptoCard

/-- THE SECOND FORM's CARD OF 'tallagelaw02.NatMul'. -/
def natMulUptoCard : Claim7 := { stood := { row := natMulUptoRow, standIns := [], harness := (true, "262ad76ea49a02d6e9afd9e30ab11ab16b634bc1ec5f4f20b92e069f440d5cb8"), looks := true }, kinds := [], alts := [], laidByText := true, laidKinds := [.data, .data, .data, .data, .sentinel, .sentinel, .pinned], laidTests := true, laidLooks := .later }
def NatMulUptoCardSaid : Prop := Claim7.holds Tryd.pinned (.plain (OpenSpec.upto natMulSpec)) natMulUptoCard

/-- THE SECOND FORM's CARD OF 'tallagelaw02.NatParts'. -/
def natPartsUptoCard : Claim7 := { stood := { row := natPartsUptoRow, standIns := [], harness := (true, "262ad76ea49a02d6e9afd9e30ab11ab16b634bc1ec5f4f20b92e069f440d5cb8"), looks := true }, kinds := [], alts := [], laidByText := true, laidKinds := [.data, .data, .data, .data, .sentinel, .sentinel, .pinned], laidTests := true, laidLooks := .later }
def NatPartsUptoCardSaid : Prop := Claim7.holds Tryd.pinned (.plain (OpenSpec.upto natPartsSpec)) natPartsUptoCard
end Rows
end Go.Proofs.YteggpgndiajdpaaDoor
