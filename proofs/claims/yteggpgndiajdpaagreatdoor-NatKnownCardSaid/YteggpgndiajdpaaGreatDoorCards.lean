/-
  DERIVED. GIVEN WITH THE SEED: THE CARDS: each row of YteggpgndiajdpaaGreatDoorRows.lean that lists a variable, with what it lists TIED to the program's text (the seventh form; the later family's looks); each row that meets fmt, with fmt's text TOLD by the authors' own Lean function (tested against real Go, not proved from fmt's source: count such statements apart). THE CARD IS WHAT COUNTS. Prove the row's statement (the work); the ties are given (YteggpgndiajdpaaGreatDoorTie.lean); close each card by the builder's one call (the guide's Derived/Test/ToyasCard.lean, 'card_holds'). Laid BY PROGRAM, IN A SANDBOX (cutbox-door.mjs). By AI agents, Wed Nov 11 2026. No macro, syntax, notation, axiom, sorry.
-/
import Derived.Test.YteggpgndiajdpaaGreatDoorRows
import GoSem.ClaimSeven
namespace Go.Proofs.YteggpgndiajdpaaGreatDoor
namespace Rows

/-- THE TIED CARD OF 'tallagelaw02.NatWords'. -/
def natWordsCard : Claim7 := { stood := { row := natWordsRow, standIns := [], harness := (true, "f29c15215c43ac3320298d2ba9d078f5a84be956fd327f884fa65dcd20fe8dea"), looks := true }, kinds := [], alts := [], laidByText := true, laidKinds := [.data, .data, .data, .data, .sentinel, .sentinel, .pinned], laidTests := true, laidLooks := .later }
def NatWordsCardSaid : Prop := Claim7.holds Tryz.pinned (.plain (OpenSpec.ofChange natWordsSpec)) natWordsCard

/-- THE TIED CARD OF 'tallagelaw02.NatKnown'. -/
def natKnownCard : Claim7 := { stood := { row := natKnownRow, standIns := [], harness := (true, "f29c15215c43ac3320298d2ba9d078f5a84be956fd327f884fa65dcd20fe8dea"), looks := true }, kinds := [], alts := [], laidByText := true, laidKinds := [.data, .data, .data, .data, .sentinel, .sentinel, .pinned], laidTests := true, laidLooks := .later }
def NatKnownCardSaid : Prop := Claim7.holds Tryz.pinned (.plain (OpenSpec.ofChange natKnownSpec)) natKnownCard

/-- THE TIED CARD OF 'tallagelaw03.BigTexts'. -/
def bigTextsCard : Claim7 := { stood := { row := bigTextsRow, standIns := [], harness := (true, "f29c15215c43ac3320298d2ba9d078f5a84be956fd327f884fa65dcd20fe8dea"), looks := true }, kinds := [], alts := [], laidByText := true, laidKinds := [.data, .data, .data, .data, .sentinel, .sentinel, .pinned], laidTests := true, laidLooks := .later }
def BigTextsCardSaid : Prop := Claim7.holds Tryz.pinned (.plain (OpenSpec.ofChange bigTextsSpec)) bigTextsCard

/-- THE TIED CARD OF 'tallagelaw03.BigBack'. -/
def bigBackCard : Claim7 := { stood := { row := bigBackRow, standIns := [], harness := (true, "f29c15215c43ac3320298d2ba9d078f5a84be956fd327f884fa65dcd20fe8dea"), looks := true }, kinds := [], alts := [], laidByText := true, laidKinds := [.data, .data, .data, .data, .sentinel, .sentinel, .pinned], laidTests := true, laidLooks := .later }
def BigBackCardSaid : Prop := Claim7.holds Tryz.pinned (.plain (OpenSpec.ofChange bigBackSpec)) bigBackCard

/-- THE TIED CARD OF 'tallagelaw03.BigKnown'. -/
def bigKnownCard : Claim7 := { stood := { row := bigKnownRow, standIns := [], harness := (true, "f29c15215c43ac3320298d2ba9d078f5a84be956fd327f884fa65dcd20fe8dea"), looks := true }, kinds := [], alts := [], laidByText := true, laidKinds := [.data, .data, .data, .data, .sentinel, .sentinel, .pinned], laidTests := true, laidLooks := .later }
def BigKnownCardSaid : Prop := Claim7.holds Tryz.pinned (.plain (OpenSpec.ofChange bigKnownSpec)) bigKnownCard

/-- THE SECOND FORM's CARD OF 'tallagelaw02.NatWords'. -/
def natWordsUptoCard : Claim7 := { stood := { row := natWordsUptoRow, standIns := [], harness := (true, "f29c15215c43ac3320298d2ba9d078f5a84be956fd327f884fa65dcd20fe8dea"), looks := true }, kinds := [], alts := [], laidByText := true, laidKinds := [.data, .data, .data, .data, .sentinel, .sentinel, .pinned], laidTests := true, laidLooks := .later }
def NatWordsUptoCardSaid : Prop := Claim7.holds Tryz.pinned (.plain (OpenSpec.upto natWordsSpec)) natWordsUptoCard

/-- THE SECOND FORM's CARD OF 'tallagelaw02.NatKnown'. -/
def natKnownUptoCard : Claim7 := { stood := { row := natKnownUptoRow, standIns := [], harness := (true, "f29c15215c43ac3320298d2ba9d078f5a84be956fd327f884fa65dcd20fe8dea"), looks := true }, kinds := [], alts := [], laidByText := true, laidKinds := [.data, .data, .data, .data, .sentinel, .sentinel, .pinned], laidTests := true, laidLooks := .later }
def NatKnownUptoCardSaid : Prop := Claim7.holds Tryz.pinned (.plain (OpenSpec.upto natKnownSpec)) natKnownUptoCard

/-- THE SECOND FORM's CARD OF 'tallagelaw03.BigTexts'. -/
def bigTextsUptoCard : Claim7 := { stood := { row := bigTextsUptoRow, standIns := [], harness := (true, "f29c15215c43ac3320298d2ba9d078f5a84be956fd327f884fa65dcd20fe8dea"), looks := true }, kinds := [], alts := [], laidByText := true, laidKinds := [.data, .data, .data, .data, .sentinel, .sentinel, .pinned], laidTests := true, laidLooks := .later }
def BigTextsUptoCardSaid : Prop := Claim7.holds Tryz.pinned (.plain (OpenSpec.upto bigTextsSpec)) bigTextsUptoCard

/-- THE SECOND FORM's CARD OF 'tallagelaw03.BigBack'. -/
def bigBackUptoCard : Claim7 := { stood := { row := bigBackUptoRow, standIns := [], harness := (true, "f29c15215c43ac3320298d2ba9d078f5a84be956fd327f884fa65dcd20fe8dea"), looks := true }, kinds := [], alts := [], laidByText := true, laidKinds := [.data, .data, .data, .data, .sentinel, .sentinel, .pinned], laidTests := true, laidLooks := .later }
def BigBackUptoCardSaid : Prop := Claim7.holds Tryz.pinned (.plain (OpenSpec.upto bigBackSpec)) bigBackUptoCard

/-- THE SECOND FORM's CARD OF 'tallagelaw03.BigKnown'. -/
def bigKnownUptoCard : Claim7 := { stood := { row := bigKnownUptoRow, standIns := [], harness := (true, "f29c15215c43ac3320298d2ba9d078f5a84be956fd327f884fa65dcd20fe8dea"), looks := true }, kinds := [], alts := [], laidByText := true, laidKinds := [.data, .data, .data, .data, .sentinel, .sentinel, .pinned], laidTests := true, laidLooks := .later }
def BigKnownUptoCardSaid : Prop := Claim7.holds Tryz.pinned (.plain (OpenSpec.upto bigKnownSpec)) bigKnownUptoCard
end Rows
end Go.Proofs.YteggpgndiajdpaaGreatDoor
