/-
  No cell of these rows narrows 'for every input' (looked for: loops, veiled, ifaces, maps, wideKeys, modest, calm, conditions, laid).
  DERIVED. THE GIVEN ROWS OF THIS SEAT. 4 by the template 'for every input the law returns true; each argument reads behind the call as it read before'; 0 by the template 'total and deterministic' (their statements: YthmgbcdidlkpoaaGreatTotals.lean).
  GIVEN WITH THE SEED: the statements are not yours to turn. If you find one false, say at which input.
  Laid BY PROGRAM, IN A SANDBOX (cutbox-rows.mjs): the forced cells as the released guide's own fill.sh prints them over the translation b2534d7777998eda… (all of the seat's roots in one cut). By AI agents, Wed Nov 11 2026. No macro, syntax, notation, axiom, sorry.
-/
import Derived.Test.YthmgbcdidlkpoaaGreatChecked
import GoSem.Claim
import GoSem.ClaimJoined
import GoSem.ClaimMapViews
import Derived.JoinedTies
import Derived.KernelRfl
namespace Go.Proofs.YthmgbcdidlkpoaaGreat
/- THE CELL 'sum', in the pinned program and in every row, IS THE sha256 OF THE DUMP (.gsa) THAT YthmgbcdidlkpoaaGreatProg.lean LOADS. Nothing in Lean hashes anything: it is a label: what it is worth is what the hold of that sum in a sandbox is worth. -/
noncomputable def Tryz.pinned : Pinned := { name := "ythmgbcdidlkpoaagreat", sum := "b2534d7777998eda27f3fda6d62fbc18cd508f0adb1685fc22fc4a2cb4ea0d08", checked := Tryz.checked }
namespace Rows
def none {H : Type} : Left H := { results := [], args := [] }

/-- 'tallagelaw29.AllocParts': WHATEVER THE INPUT: true; the input reads as it did. -/
def allocPartsSpec : ChangeSpec := { name := "allocParts", fn := fun _ => fun
  | [d1, d2, d3] => { results := [.lit (.bool true)], args := [d1, d2, d3] }
  | _ => none }
def allocPartsRow : OpenClaim := { program := "ythmgbcdidlkpoaagreat", sum := "b2534d7777998eda27f3fda6d62fbc18cd508f0adb1685fc22fc4a2cb4ea0d08", func := "tallage/tallagelaw29.AllocParts", spec := "allocParts", unfollowed := true, recurses := true, named := ["math/bits.overflowError"], apart := false }
def AllocPartsSaid : Prop := allocPartsRow.holds Tryz.pinned (OpenSpec.ofChange allocPartsSpec)

/-- ITS FALSE NEIGHBOUR: 'it returns false'. Refute it at one input. -/
def allocPartsWrong : ChangeSpec := { name := "allocParts", fn := fun _ => fun
  | [d1, d2, d3] => { results := [.lit (.bool false)], args := [d1, d2, d3] }
  | _ => none }
def AllocPartsWrongFalsely : Prop := allocPartsRow.holds Tryz.pinned (OpenSpec.ofChange allocPartsWrong)

/-- 'tallagelaw29.AllocWhole': WHATEVER THE INPUT: true; the input reads as it did. -/
def allocWholeSpec : ChangeSpec := { name := "allocWhole", fn := fun _ => fun
  | [d] => { results := [.lit (.bool true)], args := [d] }
  | _ => none }
def allocWholeRow : OpenClaim := { program := "ythmgbcdidlkpoaagreat", sum := "b2534d7777998eda27f3fda6d62fbc18cd508f0adb1685fc22fc4a2cb4ea0d08", func := "tallage/tallagelaw29.AllocWhole", spec := "allocWhole", unfollowed := true, recurses := true, named := ["math/bits.overflowError"], apart := false }
def AllocWholeSaid : Prop := allocWholeRow.holds Tryz.pinned (OpenSpec.ofChange allocWholeSpec)

/-- ITS FALSE NEIGHBOUR: 'it returns false'. Refute it at one input. -/
def allocWholeWrong : ChangeSpec := { name := "allocWhole", fn := fun _ => fun
  | [d] => { results := [.lit (.bool false)], args := [d] }
  | _ => none }
def AllocWholeWrongFalsely : Prop := allocWholeRow.holds Tryz.pinned (OpenSpec.ofChange allocWholeWrong)

/-- 'tallagelaw29.AllocExact': WHATEVER THE INPUT: true; the input reads as it did. -/
def allocExactSpec : ChangeSpec := { name := "allocExact", fn := fun _ => fun
  | [d1, d2, d3] => { results := [.lit (.bool true)], args := [d1, d2, d3] }
  | _ => none }
def allocExactRow : OpenClaim := { program := "ythmgbcdidlkpoaagreat", sum := "b2534d7777998eda27f3fda6d62fbc18cd508f0adb1685fc22fc4a2cb4ea0d08", func := "tallage/tallagelaw29.AllocExact", spec := "allocExact", unfollowed := true, recurses := true, named := ["math/bits.overflowError"], apart := false }
def AllocExactSaid : Prop := allocExactRow.holds Tryz.pinned (OpenSpec.ofChange allocExactSpec)

/-- ITS FALSE NEIGHBOUR: 'it returns false'. Refute it at one input. -/
def allocExactWrong : ChangeSpec := { name := "allocExact", fn := fun _ => fun
  | [d1, d2, d3] => { results := [.lit (.bool false)], args := [d1, d2, d3] }
  | _ => none }
def AllocExactWrongFalsely : Prop := allocExactRow.holds Tryz.pinned (OpenSpec.ofChange allocExactWrong)

/-- 'tallagelaw29.AllocKnown': WHATEVER THE INPUT: true; the input reads as it did. -/
def allocKnownSpec : ChangeSpec := { name := "allocKnown", fn := fun _ => fun
  | [] => { results := [.lit (.bool true)], args := [] }
  | _ => none }
def allocKnownRow : OpenClaim := { program := "ythmgbcdidlkpoaagreat", sum := "b2534d7777998eda27f3fda6d62fbc18cd508f0adb1685fc22fc4a2cb4ea0d08", func := "tallage/tallagelaw29.AllocKnown", spec := "allocKnown", unfollowed := true, recurses := true, named := ["math/bits.overflowError"], apart := false }
def AllocKnownSaid : Prop := allocKnownRow.holds Tryz.pinned (OpenSpec.ofChange allocKnownSpec)

/-- ITS FALSE NEIGHBOUR: 'it returns false'. Refute it at one input. -/
def allocKnownWrong : ChangeSpec := { name := "allocKnown", fn := fun _ => fun
  | [] => { results := [.lit (.bool false)], args := [] }
  | _ => none }
def AllocKnownWrongFalsely : Prop := allocKnownRow.holds Tryz.pinned (OpenSpec.ofChange allocKnownWrong)

/- THE SECOND FORM. 'bulk': how many values and letters a reading holds, each counted each time it is reached (what is shared counts as often as it is met; a slice's spare places count too). A statement '..UptoSaid' is the law's where the arguments, and the package variables that the reading takes, are together of bulk at most 1048576: NARROWER than '..Said'. Prove '..Said' where nothing that the law and all that it calls make is longer than what came in: it says more and counts as full. Else prove '..UptoSaid'. A law counts once. -/
mutual
def uptoBulk {H : Type} : DataW H → Nat
  | .lit (.string bytes) => bytes.length + 1
  | .lit _ => 1
  | .nil => 1
  | .ptr d => uptoBulk d + 1
  | .slice elems spare => uptoBulkAll elems + uptoBulkAll spare + 1
  | .agg parts => uptoBulkAll parts + 1
  | .iface _ d => uptoBulk d + 1
  | .map entries => uptoBulkEntries entries + 1
  | .held _ => 1
def uptoBulkAll {H : Type} : List (DataW H) → Nat
  | [] => 0
  | d :: r => uptoBulk d + uptoBulkAll r
def uptoBulkEntries {H : Type} : List (Lit × DataW H) → Nat
  | [] => 0
  | x :: r => uptoBulkEntry x + uptoBulkEntries r
def uptoBulkEntry {H : Type} : Lit × DataW H → Nat
  | (.string bytes, d) => bytes.length + uptoBulk d + 1
  | (_, d) => uptoBulk d + 1
 end
def uptoSmall : (H : Type) → List (DataW H) → Bool := fun _ ds => decide (uptoBulkAll ds ≤ 1048576)
def OpenSpec.upto (s : _root_.Go.ChangeSpec) : _root_.Go.OpenSpec := { _root_.Go.OpenSpec.ofChange s with cond := some uptoSmall }

/-- 'tallagelaw29.AllocParts', WHERE WHAT IT READS IS OF BULK AT MOST 1048576: true; the input reads as it did. -/
def allocPartsUptoRow : OpenClaim := { program := "ythmgbcdidlkpoaagreat", sum := "b2534d7777998eda27f3fda6d62fbc18cd508f0adb1685fc22fc4a2cb4ea0d08", func := "tallage/tallagelaw29.AllocParts", spec := "allocParts", unfollowed := true, recurses := true, named := ["math/bits.overflowError"], apart := false, narrowed := true }
def AllocPartsUptoSaid : Prop := allocPartsUptoRow.holds Tryz.pinned (OpenSpec.upto allocPartsSpec)

/-- 'tallagelaw29.AllocWhole', WHERE WHAT IT READS IS OF BULK AT MOST 1048576: true; the input reads as it did. -/
def allocWholeUptoRow : OpenClaim := { program := "ythmgbcdidlkpoaagreat", sum := "b2534d7777998eda27f3fda6d62fbc18cd508f0adb1685fc22fc4a2cb4ea0d08", func := "tallage/tallagelaw29.AllocWhole", spec := "allocWhole", unfollowed := true, recurses := true, named := ["math/bits.overflowError"], apart := false, narrowed := true }
def AllocWholeUptoSaid : Prop := allocWholeUptoRow.holds Tryz.pinned (OpenSpec.upto allocWholeSpec)

/-- 'tallagelaw29.AllocExact', WHERE WHAT IT READS IS OF BULK AT MOST 1048576: true; the input reads as it did. -/
def allocExactUptoRow : OpenClaim := { program := "ythmgbcdidlkpoaagreat", sum := "b2534d7777998eda27f3fda6d62fbc18cd508f0adb1685fc22fc4a2cb4ea0d08", func := "tallage/tallagelaw29.AllocExact", spec := "allocExact", unfollowed := true, recurses := true, named := ["math/bits.overflowError"], apart := false, narrowed := true }
def AllocExactUptoSaid : Prop := allocExactUptoRow.holds Tryz.pinned (OpenSpec.upto allocExactSpec)

/-- 'tallagelaw29.AllocKnown', WHERE WHAT IT READS IS OF BULK AT MOST 1048576: true; the input reads as it did. -/
def allocKnownUptoRow : OpenClaim := { program := "ythmgbcdidlkpoaagreat", sum := "b2534d7777998eda27f3fda6d62fbc18cd508f0adb1685fc22fc4a2cb4ea0d08", func := "tallage/tallagelaw29.AllocKnown", spec := "allocKnown", unfollowed := true, recurses := true, named := ["math/bits.overflowError"], apart := false, narrowed := true }
def AllocKnownUptoSaid : Prop := allocKnownUptoRow.holds Tryz.pinned (OpenSpec.upto allocKnownSpec)

end Rows
end Go.Proofs.YthmgbcdidlkpoaaGreat
