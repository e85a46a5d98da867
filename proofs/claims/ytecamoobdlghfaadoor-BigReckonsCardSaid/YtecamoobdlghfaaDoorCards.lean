/-
  DERIVED. GIVEN WITH THE SEED: THE CARDS: each row of YtecamoobdlghfaaDoorRows.lean that lists a variable, with what it lists TIED to the program's text (the seventh form; the later family's looks); each row that meets fmt, with fmt's text TOLD by the authors' own Lean function (tested against real Go, not proved from fmt's source: count such statements apart). THE CARD IS WHAT COUNTS. Prove the row's statement (the work); the ties are given (YtecamoobdlghfaaDoorTie.lean); close each card by the builder's one call (the guide's Derived/Test/ToyasCard.lean, 'card_holds'). Laid BY PROGRAM, IN A SANDBOX (cutbox-door.mjs). By AI agents, Wed Nov 11 2026. No macro, syntax, notation, axiom, sorry.
-/
import Derived.Test.YtecamoobdlghfaaDoorRows
import GoSem.ClaimSeven
namespace Go.Proofs.YtecamoobdlghfaaDoor
namespace Rows

/-- THE TIED CARD OF 'tallagelaw03.BigReckons'. -/
def bigReckonsCard : Claim7 := { stood := { row := bigReckonsRow, standIns := [], harness := (true, "bf0ad60e9521b6bcc51c26db97d39bda58ff4cdb83322b12118a53ceb5e04c66"), looks := false }, kinds := [], alts := [], laidByText := true, laidKinds := [.data, .pinned], laidTests := true, laidLooks := .later }
def BigReckonsCardSaid : Prop := Claim7.holds Tryd.pinned (.plain (OpenSpec.ofChange bigReckonsSpec)) bigReckonsCard

/-- THE TIED CARD OF 'tallagelaw03.BigSums'. -/
def bigSumsCard : Claim7 := { stood := { row := bigSumsRow, standIns := [], harness := (true, "bf0ad60e9521b6bcc51c26db97d39bda58ff4cdb83322b12118a53ceb5e04c66"), looks := false }, kinds := [], alts := [], laidByText := true, laidKinds := [.data, .pinned], laidTests := true, laidLooks := .later }
def BigSumsCardSaid : Prop := Claim7.holds Tryd.pinned (.plain (OpenSpec.ofChange bigSumsSpec)) bigSumsCard

/-- THE SECOND FORM's CARD OF 'tallagelaw03.BigReckons'. -/
def bigReckonsUptoCard : Claim7 := { stood := { row := bigReckonsUptoRow, standIns := [], harness := (true, "bf0ad60e9521b6bcc51c26db97d39bda58ff4cdb83322b12118a53ceb5e04c66"), looks := false }, kinds := [], alts := [], laidByText := true, laidKinds := [.data, .pinned], laidTests := true, laidLooks := .later }
def BigReckonsUptoCardSaid : Prop := Claim7.holds Tryd.pinned (.plain (OpenSpec.upto bigReckonsSpec)) bigReckonsUptoCard

/-- THE SECOND FORM's CARD OF 'tallagelaw03.BigSums'. -/
def bigSumsUptoCard : Claim7 := { stood := { row := bigSumsUptoRow, standIns := [], harness := (true, "bf0ad60e9521b6bcc51c26db97d39bda58ff4cdb83322b12118a53ceb5e04c66"), looks := false }, kinds := [], alts := [], laidByText := true, laidKinds := [.data, .pinned], laidTests := true, laidLooks := .later }
def BigSumsUptoCardSaid : Prop := Claim7.holds Tryd.pinned (.plain (OpenSpec.upto bigSumsSpec)) bigSumsUptoCard
end Rows
end Go.Proofs.YtecamoobdlghfaaDoor
