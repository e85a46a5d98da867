/- Part 10 of a proof: Rib3 to Rib3. -/
import Derived.Test.YtecamoobdlghfaaDoorM5
import Derived.Test.YtecamoobdlghfaaDoorM9
import Derived.WalkKit
import Derived.ProofKit
import Derived.OpenShut
import Derived.ChangeOld
import Derived.Below
import Derived.Carry
set_option maxRecDepth 100000
set_option linter.unusedVariables false
set_option linter.unusedSimpArgs false
namespace Go.Proofs.YtecamoobdlghfaaDoor
open Go Go.ChangeShapes Go.WideShapes Go.ChangeAt Go.RowKit
theorem Mx:Tryd.prog.cellsOf 24=2:=by kernel_rfl
theorem Ju:Tryd.prog.cellsOf 4=1:=by kernel_rfl
theorem My:Tryd.prog.cellsOf 70=1:=by kernel_rfl
theorem Fh:Tryd.prog.cellsOf 22=1:=by kernel_rfl
theorem Bx:Reads Tryd.prog 24 2 (fun l=>∃a:Zi,Lim 4294967296 a.x∧l=lL false a):=by
 have h1:=Jv Tryd.underlying4 Ju
 have h2:=Fi Tryd.underlying22 Tryd.underlying70 Fh My rfl
 have h3:=By Tryd.underlying24 Mx (.cons rfl h1 (.cons rfl h2 .nil))
 exact(Jw h3).mono fun l ⟨s,xs,h4,h5⟩=>⟨⟨s,xs⟩,h4,h5⟩
theorem xR {W:World}{N:Nat→Prop}:∀{l:List Tr}{us:List Value},FRL W N l us→ARL W N [] (l.map .t) us
 | [],us,h=>by simpa[FRL,ARL]using h
 | x::l,u::us,h=>by
  simp only[FRL]at h
  simp only[List.map_cons,ARL,AR]
  exact⟨h.1,xR h.2⟩
 | _::_,[],h=>by simp only[FRL]at h
theorem Bz {W:World}{l:List Tr}{cs:Array Value}(h:FRL W (tA W) l (Value.agg cs).cells.toList):bE W (tA W) [] (.agg (l.map .t)) (.agg cs):=⟨cs.toList,by simp,xR (by simpa[Value.cells]using h)⟩
end Go.Proofs.YtecamoobdlghfaaDoor
