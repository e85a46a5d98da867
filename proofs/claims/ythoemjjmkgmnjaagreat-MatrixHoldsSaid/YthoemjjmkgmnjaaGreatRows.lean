/-
  No cell of these rows narrows 'for every input' (looked for: loops, veiled, ifaces, maps, wideKeys, modest, calm, conditions, laid).
  DERIVED. THE GIVEN ROWS OF THIS SEAT. 5 by the template 'for every input the law returns true; each argument reads behind the call as it read before'; 0 by the template 'total and deterministic' (their statements: YthoemjjmkgmnjaaGreatTotals.lean).
  GIVEN WITH THE SEED: the statements are not yours to turn. If you find one false, say at which input.
  Laid BY PROGRAM, IN A SANDBOX (cutbox-rows.mjs): the forced cells as the released guide's own fill.sh prints them over the translation 8bdda4c651c64618… (all of the seat's roots in one cut). By AI agents, Wed Nov 11 2026. No macro, syntax, notation, axiom, sorry.
-/
import Derived.Test.YthoemjjmkgmnjaaGreatChecked
import GoSem.Claim
import GoSem.ClaimJoined
import GoSem.ClaimMapViews
import Derived.JoinedTies
import Derived.KernelRfl
namespace Go.Proofs.YthoemjjmkgmnjaaGreat
/- THE CELL 'sum', in the pinned program and in every row, IS THE sha256 OF THE DUMP (.gsa) THAT YthoemjjmkgmnjaaGreatProg.lean LOADS. Nothing in Lean hashes anything: it is a label: what it is worth is what the hold of that sum in a sandbox is worth. -/
noncomputable def Tryz.pinned : Pinned := { name := "ythoemjjmkgmnjaagreat", sum := "8bdda4c651c64618fcb2708b8f988c6e76a67cc50578e66ac0322e05ca791bed", checked := Tryz.checked }
namespace Rows
def none {H : Type} : Left H := { results := [], args := [] }

/-- 'tallagelaw27.MatrixMore': WHATEVER THE INPUT: true; the input reads as it did. -/
def matrixMoreSpec : ChangeSpec := { name := "matrixMore", fn := fun _ => fun
  | [d1, d2, d3] => { results := [.lit (.bool true)], args := [d1, d2, d3] }
  | _ => none }
def matrixMoreRow : OpenClaim := { program := "ythoemjjmkgmnjaagreat", sum := "8bdda4c651c64618fcb2708b8f988c6e76a67cc50578e66ac0322e05ca791bed", func := "tallage/tallagelaw27.MatrixMore", spec := "matrixMore", unfollowed := true, recurses := true, named := ["math/bits.overflowError"], apart := false }
def MatrixMoreSaid : Prop := matrixMoreRow.holds Tryz.pinned (OpenSpec.ofChange matrixMoreSpec)

/-- ITS FALSE NEIGHBOUR: 'it returns false'. Refute it at one input. -/
def matrixMoreWrong : ChangeSpec := { name := "matrixMore", fn := fun _ => fun
  | [d1, d2, d3] => { results := [.lit (.bool false)], args := [d1, d2, d3] }
  | _ => none }
def MatrixMoreWrongFalsely : Prop := matrixMoreRow.holds Tryz.pinned (OpenSpec.ofChange matrixMoreWrong)

/-- 'tallagelaw27.MatrixRuns': WHATEVER THE INPUT: true; the input reads as it did. -/
def matrixRunsSpec : ChangeSpec := { name := "matrixRuns", fn := fun _ => fun
  | [d1, d2] => { results := [.lit (.bool true)], args := [d1, d2] }
  | _ => none }
def matrixRunsRow : OpenClaim := { program := "ythoemjjmkgmnjaagreat", sum := "8bdda4c651c64618fcb2708b8f988c6e76a67cc50578e66ac0322e05ca791bed", func := "tallage/tallagelaw27.MatrixRuns", spec := "matrixRuns", unfollowed := true, recurses := true, named := ["math/bits.overflowError"], apart := false }
def MatrixRunsSaid : Prop := matrixRunsRow.holds Tryz.pinned (OpenSpec.ofChange matrixRunsSpec)

/-- ITS FALSE NEIGHBOUR: 'it returns false'. Refute it at one input. -/
def matrixRunsWrong : ChangeSpec := { name := "matrixRuns", fn := fun _ => fun
  | [d1, d2] => { results := [.lit (.bool false)], args := [d1, d2] }
  | _ => none }
def MatrixRunsWrongFalsely : Prop := matrixRunsRow.holds Tryz.pinned (OpenSpec.ofChange matrixRunsWrong)

/-- 'tallagelaw27.MatrixJudges': WHATEVER THE INPUT: true; the input reads as it did. -/
def matrixJudgesSpec : ChangeSpec := { name := "matrixJudges", fn := fun _ => fun
  | [d1, d2, d3] => { results := [.lit (.bool true)], args := [d1, d2, d3] }
  | _ => none }
def matrixJudgesRow : OpenClaim := { program := "ythoemjjmkgmnjaagreat", sum := "8bdda4c651c64618fcb2708b8f988c6e76a67cc50578e66ac0322e05ca791bed", func := "tallage/tallagelaw27.MatrixJudges", spec := "matrixJudges", unfollowed := true, recurses := true, named := ["math/bits.overflowError"], apart := false }
def MatrixJudgesSaid : Prop := matrixJudgesRow.holds Tryz.pinned (OpenSpec.ofChange matrixJudgesSpec)

/-- ITS FALSE NEIGHBOUR: 'it returns false'. Refute it at one input. -/
def matrixJudgesWrong : ChangeSpec := { name := "matrixJudges", fn := fun _ => fun
  | [d1, d2, d3] => { results := [.lit (.bool false)], args := [d1, d2, d3] }
  | _ => none }
def MatrixJudgesWrongFalsely : Prop := matrixJudgesRow.holds Tryz.pinned (OpenSpec.ofChange matrixJudgesWrong)

/-- 'tallagelaw27.MatrixHolds': WHATEVER THE INPUT: true; the input reads as it did. -/
def matrixHoldsSpec : ChangeSpec := { name := "matrixHolds", fn := fun _ => fun
  | [d1, d2] => { results := [.lit (.bool true)], args := [d1, d2] }
  | _ => none }
def matrixHoldsRow : OpenClaim := { program := "ythoemjjmkgmnjaagreat", sum := "8bdda4c651c64618fcb2708b8f988c6e76a67cc50578e66ac0322e05ca791bed", func := "tallage/tallagelaw27.MatrixHolds", spec := "matrixHolds", unfollowed := true, recurses := true, named := ["math/bits.overflowError"], apart := false }
def MatrixHoldsSaid : Prop := matrixHoldsRow.holds Tryz.pinned (OpenSpec.ofChange matrixHoldsSpec)

/-- ITS FALSE NEIGHBOUR: 'it returns false'. Refute it at one input. -/
def matrixHoldsWrong : ChangeSpec := { name := "matrixHolds", fn := fun _ => fun
  | [d1, d2] => { results := [.lit (.bool false)], args := [d1, d2] }
  | _ => none }
def MatrixHoldsWrongFalsely : Prop := matrixHoldsRow.holds Tryz.pinned (OpenSpec.ofChange matrixHoldsWrong)

/-- 'tallagelaw27.MatrixKnown': WHATEVER THE INPUT: true; the input reads as it did. -/
def matrixKnownSpec : ChangeSpec := { name := "matrixKnown", fn := fun _ => fun
  | [] => { results := [.lit (.bool true)], args := [] }
  | _ => none }
def matrixKnownRow : OpenClaim := { program := "ythoemjjmkgmnjaagreat", sum := "8bdda4c651c64618fcb2708b8f988c6e76a67cc50578e66ac0322e05ca791bed", func := "tallage/tallagelaw27.MatrixKnown", spec := "matrixKnown", unfollowed := true, recurses := true, named := ["math/bits.overflowError"], apart := false }
def MatrixKnownSaid : Prop := matrixKnownRow.holds Tryz.pinned (OpenSpec.ofChange matrixKnownSpec)

/-- ITS FALSE NEIGHBOUR: 'it returns false'. Refute it at one input. -/
def matrixKnownWrong : ChangeSpec := { name := "matrixKnown", fn := fun _ => fun
  | [] => { results := [.lit (.bool false)], args := [] }
  | _ => none }
def MatrixKnownWrongFalsely : Prop := matrixKnownRow.holds Tryz.pinned (OpenSpec.ofChange matrixKnownWrong)

/- THE SECOND FORM. 'bulk': how many values and letters a reading holds, each counted each time it is reached (what is shared counts as often as it is met; a slice's spare places count too). A statement '..UptoSaid' is the law's where the arguments, and the package variables that the reading takes, are together of bulk at most 1048576: NARROWER than '..Said'. Prove '..Said' where nothing that the law and all that it calls make is longer than what came in: it says more and counts as full. Else prove '..UptoSaid'. A law counts once. -/
mutual
def uptoBulk {H : Type} : DataW H → Nat
  | .lit (.string bytes) => bytes.length + 1
  | .lit _ => 1
  | .nil => 1
  | .ptr d => uptoBulk d + 1
  | .slice elems spare => uptoBulkAll elems + uptoBulkAll spare + 1
  | .agg parts => uptoBulkAll parts + 1
  | .iface _ d => uptoBulk d + 1
  | .map entries => uptoBulkEntries entries + 1
  | .held _ => 1
def uptoBulkAll {H : Type} : List (DataW H) → Nat
  | [] => 0
  | d :: r => uptoBulk d + uptoBulkAll r
def uptoBulkEntries {H : Type} : List (Lit × DataW H) → Nat
  | [] => 0
  | x :: r => uptoBulkEntry x + uptoBulkEntries r
def uptoBulkEntry {H : Type} : Lit × DataW H → Nat
  | (.string bytes, d) => bytes.length + uptoBulk d + 1
  | (_, d) => uptoBulk d + 1
 end
def uptoSmall : (H : Type) → List (DataW H) → Bool := fun _ ds => decide (uptoBulkAll ds ≤ 1048576)
def OpenSpec.upto (s : _root_.Go.ChangeSpec) : _root_.Go.OpenSpec := { _root_.Go.OpenSpec.ofChange s with cond := some uptoSmall }

/-- 'tallagelaw27.MatrixMore', WHERE WHAT IT READS IS OF BULK AT MOST 1048576: true; the input reads as it did. -/
def matrixMoreUptoRow : OpenClaim := { program := "ythoemjjmkgmnjaagreat", sum := "8bdda4c651c64618fcb2708b8f988c6e76a67cc50578e66ac0322e05ca791bed", func := "tallage/tallagelaw27.MatrixMore", spec := "matrixMore", unfollowed := true, recurses := true, named := ["math/bits.overflowError"], apart := false, narrowed := true }
def MatrixMoreUptoSaid : Prop := matrixMoreUptoRow.holds Tryz.pinned (OpenSpec.upto matrixMoreSpec)

/-- 'tallagelaw27.MatrixRuns', WHERE WHAT IT READS IS OF BULK AT MOST 1048576: true; the input reads as it did. -/
def matrixRunsUptoRow : OpenClaim := { program := "ythoemjjmkgmnjaagreat", sum := "8bdda4c651c64618fcb2708b8f988c6e76a67cc50578e66ac0322e05ca791bed", func := "tallage/tallagelaw27.MatrixRuns", spec := "matrixRuns", unfollowed := true, recurses := true, named := ["math/bits.overflowError"], apart := false, narrowed := true }
def MatrixRunsUptoSaid : Prop := matrixRunsUptoRow.holds Tryz.pinned (OpenSpec.upto matrixRunsSpec)

/-- 'tallagelaw27.MatrixJudges', WHERE WHAT IT READS IS OF BULK AT MOST 1048576: true; the input reads as it did. -/
def matrixJudgesUptoRow : OpenClaim := { program := "ythoemjjmkgmnjaagreat", sum := "8bdda4c651c64618fcb2708b8f988c6e76a67cc50578e66ac0322e05ca791bed", func := "tallage/tallagelaw27.MatrixJudges", spec := "matrixJudges", unfollowed := true, recurses := true, named := ["math/bits.overflowError"], apart := false, narrowed := true }
def MatrixJudgesUptoSaid : Prop := matrixJudgesUptoRow.holds Tryz.pinned (OpenSpec.upto matrixJudgesSpec)

/-- 'tallagelaw27.MatrixHolds', WHERE WHAT IT READS IS OF BULK AT MOST 1048576: true; the input reads as it did. -/
def matrixHoldsUptoRow : OpenClaim := { program := "ythoemjjmkgmnjaagreat", sum := "8bdda4c651c64618fcb2708b8f988c6e76a67cc50578e66ac0322e05ca791bed", func := "tallage/tallagelaw27.MatrixHolds", spec := "matrixHolds", unfollowed := true, recurses := true, named := ["math/bits.overflowError"], apart := false, narrowed := true }
def MatrixHoldsUptoSaid : Prop := matrixHoldsUptoRow.holds Tryz.pinned (OpenSpec.upto matrixHoldsSpec)

/-- 'tallagelaw27.MatrixKnown', WHERE WHAT IT READS IS OF BULK AT MOST 1048576: true; the input reads as it did. -/
def matrixKnownUptoRow : OpenClaim := { program := "ythoemjjmkgmnjaagreat", sum := "8bdda4c651c64618fcb2708b8f988c6e76a67cc50578e66ac0322e05ca791bed", func := "tallage/tallagelaw27.MatrixKnown", spec := "matrixKnown", unfollowed := true, recurses := true, named := ["math/bits.overflowError"], apart := false, narrowed := true }
def MatrixKnownUptoSaid : Prop := matrixKnownUptoRow.holds Tryz.pinned (OpenSpec.upto matrixKnownSpec)

end Rows
end Go.Proofs.YthoemjjmkgmnjaaGreat
