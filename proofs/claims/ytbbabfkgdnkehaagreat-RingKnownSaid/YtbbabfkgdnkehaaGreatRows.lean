/-
  No cell of these rows narrows 'for every input' (looked for: loops, veiled, ifaces, maps, wideKeys, modest, calm, conditions, laid).
  DERIVED. THE GIVEN ROWS OF THIS SEAT. 5 by the template 'for every input the law returns true; each argument reads behind the call as it read before'; 0 by the template 'total and deterministic' (their statements: YtbbabfkgdnkehaaGreatTotals.lean).
  GIVEN WITH THE SEED: the statements are not yours to turn. If you find one false, say at which input.
  Laid BY PROGRAM, IN A SANDBOX (cutbox-rows.mjs): the forced cells as the released guide's own fill.sh prints them over the translation fa59535b4ff91627… (all of the seat's roots in one cut). By AI agents, Wed Nov 11 2026. No macro, syntax, notation, axiom, sorry.
-/
import Derived.Test.YtbbabfkgdnkehaaGreatChecked
import GoSem.Claim
import GoSem.ClaimJoined
import GoSem.ClaimMapViews
import Derived.JoinedTies
import Derived.KernelRfl
namespace Go.Proofs.YtbbabfkgdnkehaaGreat
/- THE CELL 'sum', in the pinned program and in every row, IS THE sha256 OF THE DUMP (.gsa) THAT YtbbabfkgdnkehaaGreatProg.lean LOADS. Nothing in Lean hashes anything: it is a label: what it is worth is what the hold of that sum in a sandbox is worth. -/
noncomputable def Tryz.pinned : Pinned := { name := "ytbbabfkgdnkehaagreat", sum := "fa59535b4ff91627617098b6351f3c2422c7cbca79ea0f77519dcdd6ae9220bc", checked := Tryz.checked }
namespace Rows
def none {H : Type} : Left H := { results := [], args := [] }

/-- 'tallagelaw26.RingRuns': WHATEVER THE INPUT: true; the input reads as it did. -/
def ringRunsSpec : ChangeSpec := { name := "ringRuns", fn := fun _ => fun
  | [d1, d2, d3] => { results := [.lit (.bool true)], args := [d1, d2, d3] }
  | _ => none }
def ringRunsRow : OpenClaim := { program := "ytbbabfkgdnkehaagreat", sum := "fa59535b4ff91627617098b6351f3c2422c7cbca79ea0f77519dcdd6ae9220bc", func := "tallage/tallagelaw26.RingRuns", spec := "ringRuns", unfollowed := true, recurses := true, named := ["math/bits.overflowError"], apart := false }
def RingRunsSaid : Prop := ringRunsRow.holds Tryz.pinned (OpenSpec.ofChange ringRunsSpec)

/-- ITS FALSE NEIGHBOUR: 'it returns false'. Refute it at one input. -/
def ringRunsWrong : ChangeSpec := { name := "ringRuns", fn := fun _ => fun
  | [d1, d2, d3] => { results := [.lit (.bool false)], args := [d1, d2, d3] }
  | _ => none }
def RingRunsWrongFalsely : Prop := ringRunsRow.holds Tryz.pinned (OpenSpec.ofChange ringRunsWrong)

/-- 'tallagelaw26.RingMore': WHATEVER THE INPUT: true; the input reads as it did. -/
def ringMoreSpec : ChangeSpec := { name := "ringMore", fn := fun _ => fun
  | [d1, d2, d3] => { results := [.lit (.bool true)], args := [d1, d2, d3] }
  | _ => none }
def ringMoreRow : OpenClaim := { program := "ytbbabfkgdnkehaagreat", sum := "fa59535b4ff91627617098b6351f3c2422c7cbca79ea0f77519dcdd6ae9220bc", func := "tallage/tallagelaw26.RingMore", spec := "ringMore", unfollowed := true, recurses := true, named := ["math/bits.overflowError"], apart := false }
def RingMoreSaid : Prop := ringMoreRow.holds Tryz.pinned (OpenSpec.ofChange ringMoreSpec)

/-- ITS FALSE NEIGHBOUR: 'it returns false'. Refute it at one input. -/
def ringMoreWrong : ChangeSpec := { name := "ringMore", fn := fun _ => fun
  | [d1, d2, d3] => { results := [.lit (.bool false)], args := [d1, d2, d3] }
  | _ => none }
def RingMoreWrongFalsely : Prop := ringMoreRow.holds Tryz.pinned (OpenSpec.ofChange ringMoreWrong)

/-- 'tallagelaw26.RingFull': WHATEVER THE INPUT: true; the input reads as it did. -/
def ringFullSpec : ChangeSpec := { name := "ringFull", fn := fun _ => fun
  | [d1, d2] => { results := [.lit (.bool true)], args := [d1, d2] }
  | _ => none }
def ringFullRow : OpenClaim := { program := "ytbbabfkgdnkehaagreat", sum := "fa59535b4ff91627617098b6351f3c2422c7cbca79ea0f77519dcdd6ae9220bc", func := "tallage/tallagelaw26.RingFull", spec := "ringFull", unfollowed := true, recurses := true, named := ["math/bits.overflowError"], apart := false }
def RingFullSaid : Prop := ringFullRow.holds Tryz.pinned (OpenSpec.ofChange ringFullSpec)

/-- ITS FALSE NEIGHBOUR: 'it returns false'. Refute it at one input. -/
def ringFullWrong : ChangeSpec := { name := "ringFull", fn := fun _ => fun
  | [d1, d2] => { results := [.lit (.bool false)], args := [d1, d2] }
  | _ => none }
def RingFullWrongFalsely : Prop := ringFullRow.holds Tryz.pinned (OpenSpec.ofChange ringFullWrong)

/-- 'tallagelaw26.RingConserves': WHATEVER THE INPUT: true; the input reads as it did. -/
def ringConservesSpec : ChangeSpec := { name := "ringConserves", fn := fun _ => fun
  | [d1, d2] => { results := [.lit (.bool true)], args := [d1, d2] }
  | _ => none }
def ringConservesRow : OpenClaim := { program := "ytbbabfkgdnkehaagreat", sum := "fa59535b4ff91627617098b6351f3c2422c7cbca79ea0f77519dcdd6ae9220bc", func := "tallage/tallagelaw26.RingConserves", spec := "ringConserves", unfollowed := true, recurses := true, named := ["math/bits.overflowError"], apart := false }
def RingConservesSaid : Prop := ringConservesRow.holds Tryz.pinned (OpenSpec.ofChange ringConservesSpec)

/-- ITS FALSE NEIGHBOUR: 'it returns false'. Refute it at one input. -/
def ringConservesWrong : ChangeSpec := { name := "ringConserves", fn := fun _ => fun
  | [d1, d2] => { results := [.lit (.bool false)], args := [d1, d2] }
  | _ => none }
def RingConservesWrongFalsely : Prop := ringConservesRow.holds Tryz.pinned (OpenSpec.ofChange ringConservesWrong)

/-- 'tallagelaw26.RingKnown': WHATEVER THE INPUT: true; the input reads as it did. -/
def ringKnownSpec : ChangeSpec := { name := "ringKnown", fn := fun _ => fun
  | [] => { results := [.lit (.bool true)], args := [] }
  | _ => none }
def ringKnownRow : OpenClaim := { program := "ytbbabfkgdnkehaagreat", sum := "fa59535b4ff91627617098b6351f3c2422c7cbca79ea0f77519dcdd6ae9220bc", func := "tallage/tallagelaw26.RingKnown", spec := "ringKnown", unfollowed := true, recurses := true, named := ["math/bits.overflowError"], apart := false }
def RingKnownSaid : Prop := ringKnownRow.holds Tryz.pinned (OpenSpec.ofChange ringKnownSpec)

/-- ITS FALSE NEIGHBOUR: 'it returns false'. Refute it at one input. -/
def ringKnownWrong : ChangeSpec := { name := "ringKnown", fn := fun _ => fun
  | [] => { results := [.lit (.bool false)], args := [] }
  | _ => none }
def RingKnownWrongFalsely : Prop := ringKnownRow.holds Tryz.pinned (OpenSpec.ofChange ringKnownWrong)

/- THE SECOND FORM. 'bulk': how many values and letters a reading holds, each counted each time it is reached (what is shared counts as often as it is met; a slice's spare places count too). A statement '..UptoSaid' is the law's where the arguments, and the package variables that the reading takes, are together of bulk at most 1048576: NARROWER than '..Said'. Prove '..Said' where nothing that the law and all that it calls make is longer than what came in: it says more and counts as full. Else prove '..UptoSaid'. A law counts once. -/
mutual
def uptoBulk {H : Type} : DataW H → Nat
  | .lit (.string bytes) => bytes.length + 1
  | .lit _ => 1
  | .nil => 1
  | .ptr d => uptoBulk d + 1
  | .slice elems spare => uptoBulkAll elems + uptoBulkAll spare + 1
  | .agg parts => uptoBulkAll parts + 1
  | .iface _ d => uptoBulk d + 1
  | .map entries => uptoBulkEntries entries + 1
  | .held _ => 1
def uptoBulkAll {H : Type} : List (DataW H) → Nat
  | [] => 0
  | d :: r => uptoBulk d + uptoBulkAll r
def uptoBulkEntries {H : Type} : List (Lit × DataW H) → Nat
  | [] => 0
  | x :: r => uptoBulkEntry x + uptoBulkEntries r
def uptoBulkEntry {H : Type} : Lit × DataW H → Nat
  | (.string bytes, d) => bytes.length + uptoBulk d + 1
  | (_, d) => uptoBulk d + 1
 end
def uptoSmall : (H : Type) → List (DataW H) → Bool := fun _ ds => decide (uptoBulkAll ds ≤ 1048576)
def OpenSpec.upto (s : _root_.Go.ChangeSpec) : _root_.Go.OpenSpec := { _root_.Go.OpenSpec.ofChange s with cond := some uptoSmall }

/-- 'tallagelaw26.RingRuns', WHERE WHAT IT READS IS OF BULK AT MOST 1048576: true; the input reads as it did. -/
def ringRunsUptoRow : OpenClaim := { program := "ytbbabfkgdnkehaagreat", sum := "fa59535b4ff91627617098b6351f3c2422c7cbca79ea0f77519dcdd6ae9220bc", func := "tallage/tallagelaw26.RingRuns", spec := "ringRuns", unfollowed := true, recurses := true, named := ["math/bits.overflowError"], apart := false, narrowed := true }
def RingRunsUptoSaid : Prop := ringRunsUptoRow.holds Tryz.pinned (OpenSpec.upto ringRunsSpec)

/-- 'tallagelaw26.RingMore', WHERE WHAT IT READS IS OF BULK AT MOST 1048576: true; the input reads as it did. -/
def ringMoreUptoRow : OpenClaim := { program := "ytbbabfkgdnkehaagreat", sum := "fa59535b4ff91627617098b6351f3c2422c7cbca79ea0f77519dcdd6ae9220bc", func := "tallage/tallagelaw26.RingMore", spec := "ringMore", unfollowed := true, recurses := true, named := ["math/bits.overflowError"], apart := false, narrowed := true }
def RingMoreUptoSaid : Prop := ringMoreUptoRow.holds Tryz.pinned (OpenSpec.upto ringMoreSpec)

/-- 'tallagelaw26.RingFull', WHERE WHAT IT READS IS OF BULK AT MOST 1048576: true; the input reads as it did. -/
def ringFullUptoRow : OpenClaim := { program := "ytbbabfkgdnkehaagreat", sum := "fa59535b4ff91627617098b6351f3c2422c7cbca79ea0f77519dcdd6ae9220bc", func := "tallage/tallagelaw26.RingFull", spec := "ringFull", unfollowed := true, recurses := true, named := ["math/bits.overflowError"], apart := false, narrowed := true }
def RingFullUptoSaid : Prop := ringFullUptoRow.holds Tryz.pinned (OpenSpec.upto ringFullSpec)

/-- 'tallagelaw26.RingConserves', WHERE WHAT IT READS IS OF BULK AT MOST 1048576: true; the input reads as it did. -/
def ringConservesUptoRow : OpenClaim := { program := "ytbbabfkgdnkehaagreat", sum := "fa59535b4ff91627617098b6351f3c2422c7cbca79ea0f77519dcdd6ae9220bc", func := "tallage/tallagelaw26.RingConserves", spec := "ringConserves", unfollowed := true, recurses := true, named := ["math/bits.overflowError"], apart := false, narrowed := true }
def RingConservesUptoSaid : Prop := ringConservesUptoRow.holds Tryz.pinned (OpenSpec.upto ringConservesSpec)

/-- 'tallagelaw26.RingKnown', WHERE WHAT IT READS IS OF BULK AT MOST 1048576: true; the input reads as it did. -/
def ringKnownUptoRow : OpenClaim := { program := "ytbbabfkgdnkehaagreat", sum := "fa59535b4ff91627617098b6351f3c2422c7cbca79ea0f77519dcdd6ae9220bc", func := "tallage/tallagelaw26.RingKnown", spec := "ringKnown", unfollowed := true, recurses := true, named := ["math/bits.overflowError"], apart := false, narrowed := true }
def RingKnownUptoSaid : Prop := ringKnownUptoRow.holds Tryz.pinned (OpenSpec.upto ringKnownSpec)

end Rows
end Go.Proofs.YtbbabfkgdnkehaaGreat
