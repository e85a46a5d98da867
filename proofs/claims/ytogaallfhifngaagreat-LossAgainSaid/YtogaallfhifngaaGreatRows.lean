/-
  No cell of these rows narrows 'for every input' (looked for: loops, veiled, ifaces, maps, wideKeys, modest, calm, conditions, laid).
  DERIVED. THE GIVEN ROWS OF THIS SEAT. 4 by the template 'for every input the law returns true; each argument reads behind the call as it read before'; 0 by the template 'total and deterministic' (their statements: YtogaallfhifngaaGreatTotals.lean).
  GIVEN WITH THE SEED: the statements are not yours to turn. If you find one false, say at which input.
  Laid BY PROGRAM, IN A SANDBOX (cutbox-rows.mjs): the forced cells as the released guide's own fill.sh prints them over the translation 56f08e59476ba4cc… (all of the seat's roots in one cut). By AI agents, Wed Nov 11 2026. No macro, syntax, notation, axiom, sorry.
-/
import Derived.Test.YtogaallfhifngaaGreatChecked
import GoSem.Claim
import GoSem.ClaimJoined
import GoSem.ClaimMapViews
import Derived.JoinedTies
import Derived.KernelRfl
namespace Go.Proofs.YtogaallfhifngaaGreat
/- THE CELL 'sum', in the pinned program and in every row, IS THE sha256 OF THE DUMP (.gsa) THAT YtogaallfhifngaaGreatProg.lean LOADS. Nothing in Lean hashes anything: it is a label: what it is worth is what the hold of that sum in a sandbox is worth. -/
noncomputable def Tryz.pinned : Pinned := { name := "ytogaallfhifngaagreat", sum := "56f08e59476ba4ccf56c2df894bf57a9be7f7991d1516d953e520acf8e353dc0", checked := Tryz.checked }
namespace Rows
def none {H : Type} : Left H := { results := [], args := [] }

/-- 'tallagelaw25.LossPlays': WHATEVER THE INPUT: true; the input reads as it did. -/
def lossPlaysSpec : ChangeSpec := { name := "lossPlays", fn := fun _ => fun
  | [d] => { results := [.lit (.bool true)], args := [d] }
  | _ => none }
def lossPlaysRow : OpenClaim := { program := "ytogaallfhifngaagreat", sum := "56f08e59476ba4ccf56c2df894bf57a9be7f7991d1516d953e520acf8e353dc0", func := "tallage/tallagelaw25.LossPlays", spec := "lossPlays", unfollowed := true, recurses := true, named := ["math/bits.overflowError"], apart := false }
def LossPlaysSaid : Prop := lossPlaysRow.holds Tryz.pinned (OpenSpec.ofChange lossPlaysSpec)

/-- ITS FALSE NEIGHBOUR: 'it returns false'. Refute it at one input. -/
def lossPlaysWrong : ChangeSpec := { name := "lossPlays", fn := fun _ => fun
  | [d] => { results := [.lit (.bool false)], args := [d] }
  | _ => none }
def LossPlaysWrongFalsely : Prop := lossPlaysRow.holds Tryz.pinned (OpenSpec.ofChange lossPlaysWrong)

/-- 'tallagelaw25.LossWhole': WHATEVER THE INPUT: true; the input reads as it did. -/
def lossWholeSpec : ChangeSpec := { name := "lossWhole", fn := fun _ => fun
  | [d] => { results := [.lit (.bool true)], args := [d] }
  | _ => none }
def lossWholeRow : OpenClaim := { program := "ytogaallfhifngaagreat", sum := "56f08e59476ba4ccf56c2df894bf57a9be7f7991d1516d953e520acf8e353dc0", func := "tallage/tallagelaw25.LossWhole", spec := "lossWhole", unfollowed := true, recurses := true, named := ["math/bits.overflowError"], apart := false }
def LossWholeSaid : Prop := lossWholeRow.holds Tryz.pinned (OpenSpec.ofChange lossWholeSpec)

/-- ITS FALSE NEIGHBOUR: 'it returns false'. Refute it at one input. -/
def lossWholeWrong : ChangeSpec := { name := "lossWhole", fn := fun _ => fun
  | [d] => { results := [.lit (.bool false)], args := [d] }
  | _ => none }
def LossWholeWrongFalsely : Prop := lossWholeRow.holds Tryz.pinned (OpenSpec.ofChange lossWholeWrong)

/-- 'tallagelaw25.LossAgain': WHATEVER THE INPUT: true; the input reads as it did. -/
def lossAgainSpec : ChangeSpec := { name := "lossAgain", fn := fun _ => fun
  | [d1, d2, d3] => { results := [.lit (.bool true)], args := [d1, d2, d3] }
  | _ => none }
def lossAgainRow : OpenClaim := { program := "ytogaallfhifngaagreat", sum := "56f08e59476ba4ccf56c2df894bf57a9be7f7991d1516d953e520acf8e353dc0", func := "tallage/tallagelaw25.LossAgain", spec := "lossAgain", unfollowed := true, recurses := true, named := ["math/bits.overflowError"], apart := false }
def LossAgainSaid : Prop := lossAgainRow.holds Tryz.pinned (OpenSpec.ofChange lossAgainSpec)

/-- ITS FALSE NEIGHBOUR: 'it returns false'. Refute it at one input. -/
def lossAgainWrong : ChangeSpec := { name := "lossAgain", fn := fun _ => fun
  | [d1, d2, d3] => { results := [.lit (.bool false)], args := [d1, d2, d3] }
  | _ => none }
def LossAgainWrongFalsely : Prop := lossAgainRow.holds Tryz.pinned (OpenSpec.ofChange lossAgainWrong)

/-- 'tallagelaw25.LossKnown': WHATEVER THE INPUT: true; the input reads as it did. -/
def lossKnownSpec : ChangeSpec := { name := "lossKnown", fn := fun _ => fun
  | [] => { results := [.lit (.bool true)], args := [] }
  | _ => none }
def lossKnownRow : OpenClaim := { program := "ytogaallfhifngaagreat", sum := "56f08e59476ba4ccf56c2df894bf57a9be7f7991d1516d953e520acf8e353dc0", func := "tallage/tallagelaw25.LossKnown", spec := "lossKnown", unfollowed := true, recurses := true, named := ["math/bits.overflowError"], apart := false }
def LossKnownSaid : Prop := lossKnownRow.holds Tryz.pinned (OpenSpec.ofChange lossKnownSpec)

/-- ITS FALSE NEIGHBOUR: 'it returns false'. Refute it at one input. -/
def lossKnownWrong : ChangeSpec := { name := "lossKnown", fn := fun _ => fun
  | [] => { results := [.lit (.bool false)], args := [] }
  | _ => none }
def LossKnownWrongFalsely : Prop := lossKnownRow.holds Tryz.pinned (OpenSpec.ofChange lossKnownWrong)

/- THE SECOND FORM. 'bulk': how many values and letters a reading holds, each counted each time it is reached (what is shared counts as often as it is met; a slice's spare places count too). A statement '..UptoSaid' is the law's where the arguments, and the package variables that the reading takes, are together of bulk at most 1048576: NARROWER than '..Said'. Prove '..Said' where nothing that the law and all that it calls make is longer than what came in: it says more and counts as full. Else prove '..UptoSaid'. A law counts once. -/
mutual
def uptoBulk {H : Type} : DataW H → Nat
  | .lit (.string bytes) => bytes.length + 1
  | .lit _ => 1
  | .nil => 1
  | .ptr d => uptoBulk d + 1
  | .slice elems spare => uptoBulkAll elems + uptoBulkAll spare + 1
  | .agg parts => uptoBulkAll parts + 1
  | .iface _ d => uptoBulk d + 1
  | .map entries => uptoBulkEntries entries + 1
  | .held _ => 1
def uptoBulkAll {H : Type} : List (DataW H) → Nat
  | [] => 0
  | d :: r => uptoBulk d + uptoBulkAll r
def uptoBulkEntries {H : Type} : List (Lit × DataW H) → Nat
  | [] => 0
  | x :: r => uptoBulkEntry x + uptoBulkEntries r
def uptoBulkEntry {H : Type} : Lit × DataW H → Nat
  | (.string bytes, d) => bytes.length + uptoBulk d + 1
  | (_, d) => uptoBulk d + 1
 end
def uptoSmall : (H : Type) → List (DataW H) → Bool := fun _ ds => decide (uptoBulkAll ds ≤ 1048576)
def OpenSpec.upto (s : _root_.Go.ChangeSpec) : _root_.Go.OpenSpec := { _root_.Go.OpenSpec.ofChange s with cond := some uptoSmall }

/-- 'tallagelaw25.LossPlays', WHERE WHAT IT READS IS OF BULK AT MOST 1048576: true; the input reads as it did. -/
def lossPlaysUptoRow : OpenClaim := { program := "ytogaallfhifngaagreat", sum := "56f08e59476ba4ccf56c2df894bf57a9be7f7991d1516d953e520acf8e353dc0", func := "tallage/tallagelaw25.LossPlays", spec := "lossPlays", unfollowed := true, recurses := true, named := ["math/bits.overflowError"], apart := false, narrowed := true }
def LossPlaysUptoSaid : Prop := lossPlaysUptoRow.holds Tryz.pinned (OpenSpec.upto lossPlaysSpec)

/-- 'tallagelaw25.LossWhole', WHERE WHAT IT READS IS OF BULK AT MOST 1048576: true; the input reads as it did. -/
def lossWholeUptoRow : OpenClaim := { program := "ytogaallfhifngaagreat", sum := "56f08e59476ba4ccf56c2df894bf57a9be7f7991d1516d953e520acf8e353dc0", func := "tallage/tallagelaw25.LossWhole", spec := "lossWhole", unfollowed := true, recurses := true, named := ["math/bits.overflowError"], apart := false, narrowed := true }
def LossWholeUptoSaid : Prop := lossWholeUptoRow.holds Tryz.pinned (OpenSpec.upto lossWholeSpec)

/-- 'tallagelaw25.LossAgain', WHERE WHAT IT READS IS OF BULK AT MOST 1048576: true; the input reads as it did. -/
def lossAgainUptoRow : OpenClaim := { program := "ytogaallfhifngaagreat", sum := "56f08e59476ba4ccf56c2df894bf57a9be7f7991d1516d953e520acf8e353dc0", func := "tallage/tallagelaw25.LossAgain", spec := "lossAgain", unfollowed := true, recurses := true, named := ["math/bits.overflowError"], apart := false, narrowed := true }
def LossAgainUptoSaid : Prop := lossAgainUptoRow.holds Tryz.pinned (OpenSpec.upto lossAgainSpec)

/-- 'tallagelaw25.LossKnown', WHERE WHAT IT READS IS OF BULK AT MOST 1048576: true; the input reads as it did. -/
def lossKnownUptoRow : OpenClaim := { program := "ytogaallfhifngaagreat", sum := "56f08e59476ba4ccf56c2df894bf57a9be7f7991d1516d953e520acf8e353dc0", func := "tallage/tallagelaw25.LossKnown", spec := "lossKnown", unfollowed := true, recurses := true, named := ["math/bits.overflowError"], apart := false, narrowed := true }
def LossKnownUptoSaid : Prop := lossKnownUptoRow.holds Tryz.pinned (OpenSpec.upto lossKnownSpec)

end Rows
end Go.Proofs.YtogaallfhifngaaGreat
