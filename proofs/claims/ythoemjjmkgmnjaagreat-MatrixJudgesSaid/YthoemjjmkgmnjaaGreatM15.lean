/- Part 15 of a proof: D2 to Rij. -/
import Derived.Test.YthoemjjmkgmnjaaGreatM14
import Derived.Test.YthoemjjmkgmnjaaGreatM9
import Derived.Test.YthoemjjmkgmnjaaGreatM13
import Derived.Test.YthoemjjmkgmnjaaGreatM7
import Derived.Test.YthoemjjmkgmnjaaGreatM11
import Derived.Test.YthoemjjmkgmnjaaGreatM5
import Derived.Test.YthoemjjmkgmnjaaGreatM8
import Derived.ProofKit
import Derived.ChangeOld
import Derived.Deep.Slices
import Derived.Deep.Strs
import Derived.WalkKit
import Derived.OpenShut
import Derived.Below
import Derived.Carry
set_option maxRecDepth 100000
set_option linter.unusedVariables false
set_option linter.unusedSimpArgs false
namespace Go.Proofs.YthoemjjmkgmnjaaGreat
open Go Go.RowKit
def Dc:Rat:=Rat.divInt 3 5
def jH:List (Rat×Rat):=[((Rat.divInt (100) 1),(Rat.divInt (0) 1)),((Rat.divInt (-50) 1),(Rat.divInt (0) 1)),((Rat.divInt (100) 1),(Rat.divInt (0) 1))]
def gC:List Us:=[⟨1,0,50,100,50⟩]
def iO:List (Rat×Rat):=[((Rat.divInt (100) 1),(Rat.divInt (0) 1)),((Rat.divInt (-80) 1),(Rat.divInt (0) 1)),((Rat.divInt (30) 1),(Rat.divInt (0) 1)),((Rat.divInt (100) 1),(Rat.divInt (0) 1))]
def fE:List Us:=[⟨1,0,60,100,40⟩,⟨1,2,18,30,12⟩,⟨1,3,2,100,98⟩]
def gJ:List (Rat×Rat):=[((Rat.divInt (-10) 1),(Rat.divInt (0) 1)),((Rat.divInt (0) 1),(Rat.divInt (0) 1)),((Rat.divInt (0) 1),(Rat.divInt (0) 1)),((Rat.divInt (100) 1),(Rat.divInt (0) 1))]
def hH:List Us:=[]
def dH (l:List (Rat×Rat)):List Rw:=En (Fr4.of Dc) ((1:Nat):Int) ((2:Nat):Int) (gN l)
theorem Rs {l:List (Rat×Rat)}{U:List Us}(hm:Jj Dc 1 2 l=true) (hs:∀p∈l,Sz 4 p.1∧Sz 4 p.2) (hl:l.length<50) (hU:(Cr Dc 1 2 l).run l.length=U):aE false Tryz.prog 10 [] [.agg (((Fr4.of Dc).tr false++[.v (.int .i64 1),.v (.int .i64 2)]:List Tr).map .t),.one (.t (fQ (gN l)))] (aO (.tup [.agg [.t (dN true true (dH l)),.t (cP true true U)],.one (tv (.int .i64 0))])):=by
 have h:=KB (bk:=((1:Nat):Int)) (fw:=((2:Nat):Int)) (KF (c:=Dc) ((eQ (n:=3) (d:=5) (by omega) (by omega) (by omega) (by omega)).mono (M:=4) (by omega)) hs hl)
 rw[Ra hm,KE hm,hU]at h
 exact h
theorem tV:aE false Tryz.prog 10 [] [.agg (((Fr4.of Dc).tr false++[.v (.int .i64 1),.v (.int .i64 2)]:List Tr).map .t),.one (.t (fQ (gN jH)))] (aO (.tup [.agg [.t (dN true true (dH jH)),.t (cP true true gC)],.one (tv (.int .i64 0))])):=Rs (l:=jH) (U:=gC) (by decide+kernel) (by simp only[jH,List.forall_mem_cons];exact⟨⟨((eQ (n:=100) (d:=1) (by omega) (by omega) (by omega) (by omega)).mono (M:=4) (by omega)),((eQ (n:=0) (d:=1) (by omega) (by omega) (by omega) (by omega)).mono (M:=4) (by omega))⟩,⟨((eQ (n:=-50) (d:=1) (by omega) (by omega) (by omega) (by omega)).mono (M:=4) (by omega)),((eQ (n:=0) (d:=1) (by omega) (by omega) (by omega) (by omega)).mono (M:=4) (by omega))⟩,⟨((eQ (n:=100) (d:=1) (by omega) (by omega) (by omega) (by omega)).mono (M:=4) (by omega)),((eQ (n:=0) (d:=1) (by omega) (by omega) (by omega) (by omega)).mono (M:=4) (by omega))⟩,fun _ h=>by cases h⟩) (by decide) (by decide+kernel)
theorem rB:aE false Tryz.prog 10 [] [.agg (((Fr4.of Dc).tr false++[.v (.int .i64 1),.v (.int .i64 2)]:List Tr).map .t),.one (.t (fQ (gN iO)))] (aO (.tup [.agg [.t (dN true true (dH iO)),.t (cP true true fE)],.one (tv (.int .i64 0))])):=Rs (l:=iO) (U:=fE) (by decide+kernel) (by simp only[iO,List.forall_mem_cons];exact⟨⟨((eQ (n:=100) (d:=1) (by omega) (by omega) (by omega) (by omega)).mono (M:=4) (by omega)),((eQ (n:=0) (d:=1) (by omega) (by omega) (by omega) (by omega)).mono (M:=4) (by omega))⟩,⟨((eQ (n:=-80) (d:=1) (by omega) (by omega) (by omega) (by omega)).mono (M:=4) (by omega)),((eQ (n:=0) (d:=1) (by omega) (by omega) (by omega) (by omega)).mono (M:=4) (by omega))⟩,⟨((eQ (n:=30) (d:=1) (by omega) (by omega) (by omega) (by omega)).mono (M:=4) (by omega)),((eQ (n:=0) (d:=1) (by omega) (by omega) (by omega) (by omega)).mono (M:=4) (by omega))⟩,⟨((eQ (n:=100) (d:=1) (by omega) (by omega) (by omega) (by omega)).mono (M:=4) (by omega)),((eQ (n:=0) (d:=1) (by omega) (by omega) (by omega) (by omega)).mono (M:=4) (by omega))⟩,fun _ h=>by cases h⟩) (by decide) (by decide+kernel)
theorem rC:aE false Tryz.prog 10 [] [.agg (((Fr4.of Dc).tr false++[.v (.int .i64 1),.v (.int .i64 2)]:List Tr).map .t),.one (.t (fQ (gN gJ)))] (aO (.tup [.agg [.t (dN true true (dH gJ)),.t (cP true true hH)],.one (tv (.int .i64 0))])):=Rs (l:=gJ) (U:=hH) (by decide+kernel) (by simp only[gJ,List.forall_mem_cons];exact⟨⟨((eQ (n:=-10) (d:=1) (by omega) (by omega) (by omega) (by omega)).mono (M:=4) (by omega)),((eQ (n:=0) (d:=1) (by omega) (by omega) (by omega) (by omega)).mono (M:=4) (by omega))⟩,⟨((eQ (n:=0) (d:=1) (by omega) (by omega) (by omega) (by omega)).mono (M:=4) (by omega)),((eQ (n:=0) (d:=1) (by omega) (by omega) (by omega) (by omega)).mono (M:=4) (by omega))⟩,⟨((eQ (n:=0) (d:=1) (by omega) (by omega) (by omega) (by omega)).mono (M:=4) (by omega)),((eQ (n:=0) (d:=1) (by omega) (by omega) (by omega) (by omega)).mono (M:=4) (by omega))⟩,⟨((eQ (n:=100) (d:=1) (by omega) (by omega) (by omega) (by omega)).mono (M:=4) (by omega)),((eQ (n:=0) (d:=1) (by omega) (by omega) (by omega) (by omega)).mono (M:=4) (by omega))⟩,fun _ h=>by cases h⟩) (by decide) (by decide+kernel)
theorem FU:(dH gJ).length=4:=by
 unfold dH
 rw[Um (by decide+kernel)]
 exact dK
theorem QI:(aD (dH gJ) 0).e=Rat.divInt 10 1:=by
 unfold dH
 rw[Um (by decide+kernel),iP (by decide)]
 show(Cr Dc 1 2 gJ).ex gJ.length 0=_
 decide+kernel
theorem tW {p q:Rat}(hq:Sz 68719476736 q) (h:p=q):aE true Tryz.prog 34 [] [qF (.of p),qF (.of q)] (aO (.one (tv (.bool true)))):=by
 subst h
 have h9:=tS (Qn.of hq) (Qn.of hq)
 rwa[decide_eq_true rfl]at h9
theorem qG:aE true Tryz.prog 9 [] [] (aO (.one (tv (.bool true)))):=by
 refine bF Tryz.func9 rfl Tryz.ntmps9 rfl aA rfl fun N w c0 h0=>?_
 have hu1:gC.length=1:=rfl
 have hu2:fE.length=3:=rfl
 have hu3:hH.length=0:=rfl
 have hr3:=FU
 refine sq ?_;refine rl ?_;refine o1 ?_;refine nl ?_;refine sq ?_;refine rl ?_
 refine ca (xO (n:=3) (d:=5) (by omega) (by omega) (by omega) (by omega)) xP ⟨a1 rfl,a1 rfl,rfl⟩ (qF (.of (Rat.divInt 3 5))) ?_
 refine o1 ?_;refine al 0 ?_;refine st ?_;refine nl ?_
 refine md (γ:=Unit) (fun _=>bV [(1,.one (.pt 0 0)),(2,.one (.pt 1 0)),(3,.one (tv (.int .i64 ((0:Nat):Int))))]) (fun _=>([⟨28,0,((Fr4.of (Rat.divInt 3 5)).tr false++[.v (.int .i64 1),.v (.int .i64 2)]:List Tr).map .t⟩,⟨35,0,[.t (.s false 66 24 (dH jH).length ((dH jH).flatMap (cF true))),.t (.s false 46 14 gC.length (gC.flatMap (dP true)))]⟩]:List Ob).map some) (fun _=>True) ?_ fun _ _=>?_
 ·refine rd [0] (fun i=>[11].contains i) mixed ?_
  refine aJ 0 ?_;refine WO.two (i:=1) (j:=9) (by kernel_rfl) ?_ ?_
  ·refine dC 1 rfl (cW (n:=100) (m:=0) (by omega) (by omega) (by omega) (by omega)) eP ⟨a1 rfl,a1 rfl,rfl⟩ (.agg ((bY (Fr4.of (Rat.divInt (100) 1),Fr4.of (Rat.divInt (0) 1))).map .t)) ?_
   refine WO.two (i:=2) (j:=9) (by kernel_rfl) ?_ ?_
   ·refine dC 2 rfl (cW (n:=-50) (m:=0) (by omega) (by omega) (by omega) (by omega)) eP ⟨a1 rfl,a1 rfl,rfl⟩ (.agg ((bY (Fr4.of (Rat.divInt (-50) 1),Fr4.of (Rat.divInt (0) 1))).map .t)) ?_
    refine WO.two (i:=3) (j:=9) (by kernel_rfl) ?_ ?_
    ·refine dC 3 rfl (cW (n:=100) (m:=0) (by omega) (by omega) (by omega) (by omega)) eP ⟨a1 rfl,a1 rfl,rfl⟩ (.agg ((bY (Fr4.of (Rat.divInt (100) 1),Fr4.of (Rat.divInt (0) 1))).map .t)) ?_
     refine WO.two (i:=4) (j:=9) (by kernel_rfl) ?_ ?_
     ·refine It (key:=1) 4 rfl rfl ⟨rfl,trivial⟩ ?_
      refine jW (i:=15) (k:=1) (t:=70) (t':=70) (z:=8) (n:=3) (l:=(gN jH).flatMap bY) rfl rfl rfl rfl (.one .sl) (by rfl) (by rfl) ?_
      refine WO.two (i:=5) (j:=9) (by kernel_rfl) ?_ ?_
      ·refine dC 5 rfl tV jU ⟨aB rfl,a1 rfl,rfl⟩ (.tup [.agg [.t (.s false 66 24 (dH jH).length ((dH jH).flatMap (cF true))),.t (.s false 46 14 gC.length (gC.flatMap (dP true)))],.one (tv (.int .i64 0))]) ?_
       refine df 6 ?_;refine df 7 ?_;refine df 8 ?_;refine eO (key:=2) 9 (by kernel_rfl) rfl rfl aA rfl ⟨rfl,trivial⟩ ?_
       refine aY 10 (by kernel_rfl) rfl rfl aA rfl rfl rfl rfl ⟨rfl,trivial⟩ ?_
       refine cN 11 (by kernel_rfl) rfl rfl aA rfl (by trivial) ?_ (fun h=>by first | rfl | cases h)
       refine aK ?_;exact⟨(),trivial,aG h0 [0,2] _ _ (by decide) ⟨rfl,rfl,rfl,trivial⟩ ⟨oe rfl rfl,oe rfl rfl,rfl⟩⟩
      refine bM (key:=2) 9 rfl rfl aA rfl ⟨rfl,trivial⟩ ?_
      refine aF 5 rfl tV jU ⟨aB rfl,a1 rfl,rfl⟩ (.tup [.agg [.t (.s false 66 24 (dH jH).length ((dH jH).flatMap (cF true))),.t (.s false 46 14 gC.length (gC.flatMap (dP true)))],.one (tv (.int .i64 0))]) ?_
      refine df 6 ?_;refine df 7 ?_;refine df 8 ?_;refine aY 10 (by kernel_rfl) rfl rfl aA rfl rfl rfl rfl ⟨rfl,trivial⟩ ?_
      refine cN 11 (by kernel_rfl) rfl rfl aA rfl (by trivial) ?_ (fun h=>by first | rfl | cases h)
      refine aK ?_;exact⟨(),trivial,aG h0 [0,2] _ _ (by decide) ⟨rfl,rfl,rfl,trivial⟩ ⟨oe rfl rfl,oe rfl rfl,rfl⟩⟩
     refine bM (key:=1) 9 rfl rfl aA rfl ⟨rfl,trivial⟩ ?_;refine fJ (key:=2) 4 (by kernel_rfl) rfl rfl aA rfl ⟨rfl,trivial⟩ ?_
     refine jW (i:=15) (k:=2) (t:=70) (t':=70) (z:=8) (n:=3) (l:=(gN jH).flatMap bY) rfl rfl rfl rfl (.one .sl) (by rfl) (by rfl) ?_
     refine aF 5 rfl tV jU ⟨aB rfl,a1 rfl,rfl⟩ (.tup [.agg [.t (.s false 66 24 (dH jH).length ((dH jH).flatMap (cF true))),.t (.s false 46 14 gC.length (gC.flatMap (dP true)))],.one (tv (.int .i64 0))]) ?_
     refine df 6 ?_;refine df 7 ?_;refine df 8 ?_;refine aY 10 (by kernel_rfl) rfl rfl aA rfl rfl rfl rfl ⟨rfl,trivial⟩ ?_
     refine cN 11 (by kernel_rfl) rfl rfl aA rfl (by trivial) ?_ (fun h=>by first | rfl | cases h)
     refine aK ?_;exact⟨(),trivial,aG h0 [0,1] _ _ (by decide) ⟨rfl,rfl,rfl,trivial⟩ ⟨oe rfl rfl,oe rfl rfl,rfl⟩⟩
    refine bM (key:=1) 9 rfl rfl aA rfl ⟨rfl,trivial⟩ ?_
    refine aF 3 rfl (cW (n:=100) (m:=0) (by omega) (by omega) (by omega) (by omega)) eP ⟨a1 rfl,a1 rfl,rfl⟩ (.agg ((bY (Fr4.of (Rat.divInt (100) 1),Fr4.of (Rat.divInt (0) 1))).map .t)) ?_
    refine fJ (key:=2) 4 (by kernel_rfl) rfl rfl aA rfl ⟨rfl,trivial⟩ ?_
    refine jW (i:=15) (k:=2) (t:=70) (t':=70) (z:=8) (n:=3) (l:=(gN jH).flatMap bY) rfl rfl rfl rfl (.one .sl) (by rfl) (by rfl) ?_
    refine aF 5 rfl tV jU ⟨aB rfl,a1 rfl,rfl⟩ (.tup [.agg [.t (.s false 66 24 (dH jH).length ((dH jH).flatMap (cF true))),.t (.s false 46 14 gC.length (gC.flatMap (dP true)))],.one (tv (.int .i64 0))]) ?_
    refine df 6 ?_;refine df 7 ?_;refine df 8 ?_;refine aY 10 (by kernel_rfl) rfl rfl aA rfl rfl rfl rfl ⟨rfl,trivial⟩ ?_
    refine cN 11 (by kernel_rfl) rfl rfl aA rfl (by trivial) ?_ (fun h=>by first | rfl | cases h)
    refine aK ?_;exact⟨(),trivial,aG h0 [0,1] _ _ (by decide) ⟨rfl,rfl,rfl,trivial⟩ ⟨oe rfl rfl,oe rfl rfl,rfl⟩⟩
   refine bM (key:=1) 9 rfl rfl aA rfl ⟨rfl,trivial⟩ ?_
   refine aF 2 rfl (cW (n:=-50) (m:=0) (by omega) (by omega) (by omega) (by omega)) eP ⟨a1 rfl,a1 rfl,rfl⟩ (.agg ((bY (Fr4.of (Rat.divInt (-50) 1),Fr4.of (Rat.divInt (0) 1))).map .t)) ?_
   refine aF 3 rfl (cW (n:=100) (m:=0) (by omega) (by omega) (by omega) (by omega)) eP ⟨a1 rfl,a1 rfl,rfl⟩ (.agg ((bY (Fr4.of (Rat.divInt (100) 1),Fr4.of (Rat.divInt (0) 1))).map .t)) ?_
   refine fJ (key:=2) 4 (by kernel_rfl) rfl rfl aA rfl ⟨rfl,trivial⟩ ?_
   refine jW (i:=15) (k:=2) (t:=70) (t':=70) (z:=8) (n:=3) (l:=(gN jH).flatMap bY) rfl rfl rfl rfl (.one .sl) (by rfl) (by rfl) ?_
   refine aF 5 rfl tV jU ⟨aB rfl,a1 rfl,rfl⟩ (.tup [.agg [.t (.s false 66 24 (dH jH).length ((dH jH).flatMap (cF true))),.t (.s false 46 14 gC.length (gC.flatMap (dP true)))],.one (tv (.int .i64 0))]) ?_
   refine df 6 ?_;refine df 7 ?_;refine df 8 ?_;refine aY 10 (by kernel_rfl) rfl rfl aA rfl rfl rfl rfl ⟨rfl,trivial⟩ ?_
   refine cN 11 (by kernel_rfl) rfl rfl aA rfl (by trivial) ?_ (fun h=>by first | rfl | cases h)
   refine aK ?_;exact⟨(),trivial,aG h0 [0,1] _ _ (by decide) ⟨rfl,rfl,rfl,trivial⟩ ⟨oe rfl rfl,oe rfl rfl,rfl⟩⟩
  refine bM (key:=1) 9 rfl rfl aA rfl ⟨rfl,trivial⟩ ?_
  refine aF 1 rfl (cW (n:=100) (m:=0) (by omega) (by omega) (by omega) (by omega)) eP ⟨a1 rfl,a1 rfl,rfl⟩ (.agg ((bY (Fr4.of (Rat.divInt (100) 1),Fr4.of (Rat.divInt (0) 1))).map .t)) ?_
  refine aF 2 rfl (cW (n:=-50) (m:=0) (by omega) (by omega) (by omega) (by omega)) eP ⟨a1 rfl,a1 rfl,rfl⟩ (.agg ((bY (Fr4.of (Rat.divInt (-50) 1),Fr4.of (Rat.divInt (0) 1))).map .t)) ?_
  refine aF 3 rfl (cW (n:=100) (m:=0) (by omega) (by omega) (by omega) (by omega)) eP ⟨a1 rfl,a1 rfl,rfl⟩ (.agg ((bY (Fr4.of (Rat.divInt (100) 1),Fr4.of (Rat.divInt (0) 1))).map .t)) ?_
  refine fJ (key:=2) 4 (by kernel_rfl) rfl rfl aA rfl ⟨rfl,trivial⟩ ?_
  refine jW (i:=15) (k:=2) (t:=70) (t':=70) (z:=8) (n:=3) (l:=(gN jH).flatMap bY) rfl rfl rfl rfl (.one .sl) (by rfl) (by rfl) ?_
  refine aF 5 rfl tV jU ⟨aB rfl,a1 rfl,rfl⟩ (.tup [.agg [.t (.s false 66 24 (dH jH).length ((dH jH).flatMap (cF true))),.t (.s false 46 14 gC.length (gC.flatMap (dP true)))],.one (tv (.int .i64 0))]) ?_
  refine df 6 ?_;refine df 7 ?_;refine df 8 ?_;refine aY 10 (by kernel_rfl) rfl rfl aA rfl rfl rfl rfl ⟨rfl,trivial⟩ ?_
  refine cN 11 (by kernel_rfl) rfl rfl aA rfl (by trivial) ?_ (fun h=>by first | rfl | cases h)
  refine aK ?_;exact⟨(),trivial,aG h0 [0,1] _ _ (by decide) ⟨rfl,rfl,rfl,trivial⟩ ⟨oe rfl rfl,oe rfl rfl,rfl⟩⟩
 refine md (γ:=Unit) (fun _=>bV [(1,.one (.pt 0 0)),(2,.one (.pt 1 0)),(3,.one (tv (.int .i64 ((0:Nat):Int)))),(4,.one (.pt 2 0))]) (fun _=>([⟨28,0,((Fr4.of (Rat.divInt 3 5)).tr false++[.v (.int .i64 1),.v (.int .i64 2)]:List Tr).map .t⟩,⟨35,0,[.t (dN false false (dH jH)),.t (cP false false gC)]⟩,⟨35,0,[.t (.s false 66 24 (dH iO).length ((dH iO).flatMap (cF true))),.t (.s false 46 14 fE.length (fE.flatMap (dP true)))]⟩]:List Ob).map some) (fun _=>True) ?_ fun _ _=>?_
 ·refine WP.sub ((Om (j:=1) (p:=0) (y:=.s false 66 24 (dH jH).length ((dH jH).flatMap (cF true))) (l':=[.t (dN false false (dH jH)),.t (.s false 46 14 gC.length (gC.flatMap (dP true)))]) rfl rfl rfl (by rw[gR,Ru];rfl)).trans (Om (j:=1) (p:=1) (y:=.s false 46 14 gC.length (gC.flatMap (dP true))) (l':=[.t (dN false false (dH jH)),.t (cP false false gC)]) rfl rfl rfl (by rw[gR,Rx];rfl))) ?_
  refine rd [0,1] (fun i=>[12].contains i) mixed ?_
  refine aJ 0 ?_;refine WO.two (i:=1) (j:=10) (by kernel_rfl) ?_ ?_
  ·refine dC 1 rfl (cW (n:=100) (m:=0) (by omega) (by omega) (by omega) (by omega)) eP ⟨a1 rfl,a1 rfl,rfl⟩ (.agg ((bY (Fr4.of (Rat.divInt (100) 1),Fr4.of (Rat.divInt (0) 1))).map .t)) ?_
   refine WO.two (i:=2) (j:=10) (by kernel_rfl) ?_ ?_
   ·refine dC 2 rfl (cW (n:=-80) (m:=0) (by omega) (by omega) (by omega) (by omega)) eP ⟨a1 rfl,a1 rfl,rfl⟩ (.agg ((bY (Fr4.of (Rat.divInt (-80) 1),Fr4.of (Rat.divInt (0) 1))).map .t)) ?_
    refine WO.two (i:=3) (j:=10) (by kernel_rfl) ?_ ?_
    ·refine dC 3 rfl (cW (n:=30) (m:=0) (by omega) (by omega) (by omega) (by omega)) eP ⟨a1 rfl,a1 rfl,rfl⟩ (.agg ((bY (Fr4.of (Rat.divInt (30) 1),Fr4.of (Rat.divInt (0) 1))).map .t)) ?_
     refine WO.two (i:=4) (j:=10) (by kernel_rfl) ?_ ?_
     ·refine dC 4 rfl (cW (n:=100) (m:=0) (by omega) (by omega) (by omega) (by omega)) eP ⟨a1 rfl,a1 rfl,rfl⟩ (.agg ((bY (Fr4.of (Rat.divInt (100) 1),Fr4.of (Rat.divInt (0) 1))).map .t)) ?_
      refine WO.two (i:=5) (j:=10) (by kernel_rfl) ?_ ?_
      ·refine It (key:=2) 5 rfl rfl ⟨rfl,rfl,trivial⟩ ?_
       refine jW (i:=25) (k:=2) (t:=70) (t':=70) (z:=8) (n:=4) (l:=(gN iO).flatMap bY) rfl rfl rfl rfl (.one .sl) (by rfl) (by rfl) ?_
       refine WO.two (i:=6) (j:=10) (by kernel_rfl) ?_ ?_
       ·refine dC 6 rfl rB jU ⟨aB rfl,a1 rfl,rfl⟩ (.tup [.agg [.t (.s false 66 24 (dH iO).length ((dH iO).flatMap (cF true))),.t (.s false 46 14 fE.length (fE.flatMap (dP true)))],.one (tv (.int .i64 0))]) ?_
        refine df 7 ?_;refine df 8 ?_;refine df 9 ?_;refine eO (key:=3) 10 (by kernel_rfl) rfl rfl aA rfl ⟨rfl,rfl,trivial⟩ ?_
        refine aY 11 (by kernel_rfl) rfl rfl aA rfl rfl rfl rfl ⟨rfl,rfl,trivial⟩ ?_
        refine cN 12 (by kernel_rfl) rfl rfl aA rfl (by trivial) ?_ (fun h=>by first | rfl | cases h)
        refine aK ?_;exact⟨(),trivial,aG h0 [0,1,3] _ _ (by decide) ⟨rfl,rfl,rfl,rfl,trivial⟩ ⟨oe rfl rfl,oe rfl rfl,oe rfl rfl,rfl⟩⟩
       refine bM (key:=3) 10 rfl rfl aA rfl ⟨rfl,rfl,trivial⟩ ?_
       refine aF 6 rfl rB jU ⟨aB rfl,a1 rfl,rfl⟩ (.tup [.agg [.t (.s false 66 24 (dH iO).length ((dH iO).flatMap (cF true))),.t (.s false 46 14 fE.length (fE.flatMap (dP true)))],.one (tv (.int .i64 0))]) ?_
       refine df 7 ?_;refine df 8 ?_;refine df 9 ?_;refine aY 11 (by kernel_rfl) rfl rfl aA rfl rfl rfl rfl ⟨rfl,rfl,trivial⟩ ?_
       refine cN 12 (by kernel_rfl) rfl rfl aA rfl (by trivial) ?_ (fun h=>by first | rfl | cases h)
       refine aK ?_;exact⟨(),trivial,aG h0 [0,1,3] _ _ (by decide) ⟨rfl,rfl,rfl,rfl,trivial⟩ ⟨oe rfl rfl,oe rfl rfl,oe rfl rfl,rfl⟩⟩
      refine bM (key:=2) 10 rfl rfl aA rfl ⟨rfl,rfl,trivial⟩ ?_;refine fJ (key:=3) 5 (by kernel_rfl) rfl rfl aA rfl ⟨rfl,rfl,trivial⟩ ?_
      refine jW (i:=25) (k:=3) (t:=70) (t':=70) (z:=8) (n:=4) (l:=(gN iO).flatMap bY) rfl rfl rfl rfl (.one .sl) (by rfl) (by rfl) ?_
      refine aF 6 rfl rB jU ⟨aB rfl,a1 rfl,rfl⟩ (.tup [.agg [.t (.s false 66 24 (dH iO).length ((dH iO).flatMap (cF true))),.t (.s false 46 14 fE.length (fE.flatMap (dP true)))],.one (tv (.int .i64 0))]) ?_
      refine df 7 ?_;refine df 8 ?_;refine df 9 ?_;refine aY 11 (by kernel_rfl) rfl rfl aA rfl rfl rfl rfl ⟨rfl,rfl,trivial⟩ ?_
      refine cN 12 (by kernel_rfl) rfl rfl aA rfl (by trivial) ?_ (fun h=>by first | rfl | cases h)
      refine aK ?_;exact⟨(),trivial,aG h0 [0,1,2] _ _ (by decide) ⟨rfl,rfl,rfl,rfl,trivial⟩ ⟨oe rfl rfl,oe rfl rfl,oe rfl rfl,rfl⟩⟩
     refine bM (key:=2) 10 rfl rfl aA rfl ⟨rfl,rfl,trivial⟩ ?_
     refine aF 4 rfl (cW (n:=100) (m:=0) (by omega) (by omega) (by omega) (by omega)) eP ⟨a1 rfl,a1 rfl,rfl⟩ (.agg ((bY (Fr4.of (Rat.divInt (100) 1),Fr4.of (Rat.divInt (0) 1))).map .t)) ?_
     refine fJ (key:=3) 5 (by kernel_rfl) rfl rfl aA rfl ⟨rfl,rfl,trivial⟩ ?_
     refine jW (i:=25) (k:=3) (t:=70) (t':=70) (z:=8) (n:=4) (l:=(gN iO).flatMap bY) rfl rfl rfl rfl (.one .sl) (by rfl) (by rfl) ?_
     refine aF 6 rfl rB jU ⟨aB rfl,a1 rfl,rfl⟩ (.tup [.agg [.t (.s false 66 24 (dH iO).length ((dH iO).flatMap (cF true))),.t (.s false 46 14 fE.length (fE.flatMap (dP true)))],.one (tv (.int .i64 0))]) ?_
     refine df 7 ?_;refine df 8 ?_;refine df 9 ?_;refine aY 11 (by kernel_rfl) rfl rfl aA rfl rfl rfl rfl ⟨rfl,rfl,trivial⟩ ?_
     refine cN 12 (by kernel_rfl) rfl rfl aA rfl (by trivial) ?_ (fun h=>by first | rfl | cases h)
     refine aK ?_;exact⟨(),trivial,aG h0 [0,1,2] _ _ (by decide) ⟨rfl,rfl,rfl,rfl,trivial⟩ ⟨oe rfl rfl,oe rfl rfl,oe rfl rfl,rfl⟩⟩
    refine bM (key:=2) 10 rfl rfl aA rfl ⟨rfl,rfl,trivial⟩ ?_
    refine aF 3 rfl (cW (n:=30) (m:=0) (by omega) (by omega) (by omega) (by omega)) eP ⟨a1 rfl,a1 rfl,rfl⟩ (.agg ((bY (Fr4.of (Rat.divInt (30) 1),Fr4.of (Rat.divInt (0) 1))).map .t)) ?_
    refine aF 4 rfl (cW (n:=100) (m:=0) (by omega) (by omega) (by omega) (by omega)) eP ⟨a1 rfl,a1 rfl,rfl⟩ (.agg ((bY (Fr4.of (Rat.divInt (100) 1),Fr4.of (Rat.divInt (0) 1))).map .t)) ?_
    refine fJ (key:=3) 5 (by kernel_rfl) rfl rfl aA rfl ⟨rfl,rfl,trivial⟩ ?_
    refine jW (i:=25) (k:=3) (t:=70) (t':=70) (z:=8) (n:=4) (l:=(gN iO).flatMap bY) rfl rfl rfl rfl (.one .sl) (by rfl) (by rfl) ?_
    refine aF 6 rfl rB jU ⟨aB rfl,a1 rfl,rfl⟩ (.tup [.agg [.t (.s false 66 24 (dH iO).length ((dH iO).flatMap (cF true))),.t (.s false 46 14 fE.length (fE.flatMap (dP true)))],.one (tv (.int .i64 0))]) ?_
    refine df 7 ?_;refine df 8 ?_;refine df 9 ?_;refine aY 11 (by kernel_rfl) rfl rfl aA rfl rfl rfl rfl ⟨rfl,rfl,trivial⟩ ?_
    refine cN 12 (by kernel_rfl) rfl rfl aA rfl (by trivial) ?_ (fun h=>by first | rfl | cases h)
    refine aK ?_;exact⟨(),trivial,aG h0 [0,1,2] _ _ (by decide) ⟨rfl,rfl,rfl,rfl,trivial⟩ ⟨oe rfl rfl,oe rfl rfl,oe rfl rfl,rfl⟩⟩
   refine bM (key:=2) 10 rfl rfl aA rfl ⟨rfl,rfl,trivial⟩ ?_
   refine aF 2 rfl (cW (n:=-80) (m:=0) (by omega) (by omega) (by omega) (by omega)) eP ⟨a1 rfl,a1 rfl,rfl⟩ (.agg ((bY (Fr4.of (Rat.divInt (-80) 1),Fr4.of (Rat.divInt (0) 1))).map .t)) ?_
   refine aF 3 rfl (cW (n:=30) (m:=0) (by omega) (by omega) (by omega) (by omega)) eP ⟨a1 rfl,a1 rfl,rfl⟩ (.agg ((bY (Fr4.of (Rat.divInt (30) 1),Fr4.of (Rat.divInt (0) 1))).map .t)) ?_
   refine aF 4 rfl (cW (n:=100) (m:=0) (by omega) (by omega) (by omega) (by omega)) eP ⟨a1 rfl,a1 rfl,rfl⟩ (.agg ((bY (Fr4.of (Rat.divInt (100) 1),Fr4.of (Rat.divInt (0) 1))).map .t)) ?_
   refine fJ (key:=3) 5 (by kernel_rfl) rfl rfl aA rfl ⟨rfl,rfl,trivial⟩ ?_
   refine jW (i:=25) (k:=3) (t:=70) (t':=70) (z:=8) (n:=4) (l:=(gN iO).flatMap bY) rfl rfl rfl rfl (.one .sl) (by rfl) (by rfl) ?_
   refine aF 6 rfl rB jU ⟨aB rfl,a1 rfl,rfl⟩ (.tup [.agg [.t (.s false 66 24 (dH iO).length ((dH iO).flatMap (cF true))),.t (.s false 46 14 fE.length (fE.flatMap (dP true)))],.one (tv (.int .i64 0))]) ?_
   refine df 7 ?_;refine df 8 ?_;refine df 9 ?_;refine aY 11 (by kernel_rfl) rfl rfl aA rfl rfl rfl rfl ⟨rfl,rfl,trivial⟩ ?_
   refine cN 12 (by kernel_rfl) rfl rfl aA rfl (by trivial) ?_ (fun h=>by first | rfl | cases h)
   refine aK ?_;exact⟨(),trivial,aG h0 [0,1,2] _ _ (by decide) ⟨rfl,rfl,rfl,rfl,trivial⟩ ⟨oe rfl rfl,oe rfl rfl,oe rfl rfl,rfl⟩⟩
  refine bM (key:=2) 10 rfl rfl aA rfl ⟨rfl,rfl,trivial⟩ ?_
  refine aF 1 rfl (cW (n:=100) (m:=0) (by omega) (by omega) (by omega) (by omega)) eP ⟨a1 rfl,a1 rfl,rfl⟩ (.agg ((bY (Fr4.of (Rat.divInt (100) 1),Fr4.of (Rat.divInt (0) 1))).map .t)) ?_
  refine aF 2 rfl (cW (n:=-80) (m:=0) (by omega) (by omega) (by omega) (by omega)) eP ⟨a1 rfl,a1 rfl,rfl⟩ (.agg ((bY (Fr4.of (Rat.divInt (-80) 1),Fr4.of (Rat.divInt (0) 1))).map .t)) ?_
  refine aF 3 rfl (cW (n:=30) (m:=0) (by omega) (by omega) (by omega) (by omega)) eP ⟨a1 rfl,a1 rfl,rfl⟩ (.agg ((bY (Fr4.of (Rat.divInt (30) 1),Fr4.of (Rat.divInt (0) 1))).map .t)) ?_
  refine aF 4 rfl (cW (n:=100) (m:=0) (by omega) (by omega) (by omega) (by omega)) eP ⟨a1 rfl,a1 rfl,rfl⟩ (.agg ((bY (Fr4.of (Rat.divInt (100) 1),Fr4.of (Rat.divInt (0) 1))).map .t)) ?_
  refine fJ (key:=3) 5 (by kernel_rfl) rfl rfl aA rfl ⟨rfl,rfl,trivial⟩ ?_
  refine jW (i:=25) (k:=3) (t:=70) (t':=70) (z:=8) (n:=4) (l:=(gN iO).flatMap bY) rfl rfl rfl rfl (.one .sl) (by rfl) (by rfl) ?_
  refine aF 6 rfl rB jU ⟨aB rfl,a1 rfl,rfl⟩ (.tup [.agg [.t (.s false 66 24 (dH iO).length ((dH iO).flatMap (cF true))),.t (.s false 46 14 fE.length (fE.flatMap (dP true)))],.one (tv (.int .i64 0))]) ?_
  refine df 7 ?_;refine df 8 ?_;refine df 9 ?_;refine aY 11 (by kernel_rfl) rfl rfl aA rfl rfl rfl rfl ⟨rfl,rfl,trivial⟩ ?_
  refine cN 12 (by kernel_rfl) rfl rfl aA rfl (by trivial) ?_ (fun h=>by first | rfl | cases h)
  refine aK ?_;exact⟨(),trivial,aG h0 [0,1,2] _ _ (by decide) ⟨rfl,rfl,rfl,rfl,trivial⟩ ⟨oe rfl rfl,oe rfl rfl,oe rfl rfl,rfl⟩⟩
 refine md (γ:=Unit) (fun _=>bV [(1,.one (.pt 0 0)),(2,.one (.pt 1 0)),(3,.one (tv (.int .i64 ((0:Nat):Int)))),(4,.one (.pt 2 0)),(6,.one (.pt 3 0))]) (fun _=>([⟨28,0,((Fr4.of (Rat.divInt 3 5)).tr false++[.v (.int .i64 1),.v (.int .i64 2)]:List Tr).map .t⟩,⟨35,0,[.t (dN false false (dH jH)),.t (cP false false gC)]⟩,⟨35,0,[.t (dN false false (dH iO)),.t (cP false false fE)]⟩,⟨35,0,[.t (.s false 66 24 (dH gJ).length ((dH gJ).flatMap (cF true))),.t (.s false 46 14 hH.length (hH.flatMap (dP true)))]⟩]:List Ob).map some) (fun _=>True) ?_ fun _ _=>?_
 ·refine WP.sub ((Om (j:=2) (p:=0) (y:=.s false 66 24 (dH iO).length ((dH iO).flatMap (cF true))) (l':=[.t (dN false false (dH iO)),.t (.s false 46 14 fE.length (fE.flatMap (dP true)))]) rfl rfl rfl (by rw[gR,Ru];rfl)).trans (Om (j:=2) (p:=1) (y:=.s false 46 14 fE.length (fE.flatMap (dP true))) (l':=[.t (dN false false (dH iO)),.t (cP false false fE)]) rfl rfl rfl (by rw[gR,Rx];rfl))) ?_
  refine rd [0,1,2] (fun i=>[12].contains i) mixed ?_
  refine aJ 0 ?_;refine WO.two (i:=1) (j:=10) (by kernel_rfl) ?_ ?_
  ·refine dC 1 rfl (cW (n:=-10) (m:=0) (by omega) (by omega) (by omega) (by omega)) eP ⟨a1 rfl,a1 rfl,rfl⟩ (.agg ((bY (Fr4.of (Rat.divInt (-10) 1),Fr4.of (Rat.divInt (0) 1))).map .t)) ?_
   refine WO.two (i:=2) (j:=10) (by kernel_rfl) ?_ ?_
   ·refine dC 2 rfl (cW (n:=0) (m:=0) (by omega) (by omega) (by omega) (by omega)) eP ⟨a1 rfl,a1 rfl,rfl⟩ (.agg ((bY (Fr4.of (Rat.divInt (0) 1),Fr4.of (Rat.divInt (0) 1))).map .t)) ?_
    refine WO.two (i:=3) (j:=10) (by kernel_rfl) ?_ ?_
    ·refine dC 3 rfl (cW (n:=0) (m:=0) (by omega) (by omega) (by omega) (by omega)) eP ⟨a1 rfl,a1 rfl,rfl⟩ (.agg ((bY (Fr4.of (Rat.divInt (0) 1),Fr4.of (Rat.divInt (0) 1))).map .t)) ?_
     refine WO.two (i:=4) (j:=10) (by kernel_rfl) ?_ ?_
     ·refine dC 4 rfl (cW (n:=100) (m:=0) (by omega) (by omega) (by omega) (by omega)) eP ⟨a1 rfl,a1 rfl,rfl⟩ (.agg ((bY (Fr4.of (Rat.divInt (100) 1),Fr4.of (Rat.divInt (0) 1))).map .t)) ?_
      refine WO.two (i:=5) (j:=10) (by kernel_rfl) ?_ ?_
      ·refine It (key:=3) 5 rfl rfl ⟨rfl,rfl,rfl,trivial⟩ ?_
       refine jW (i:=35) (k:=3) (t:=70) (t':=70) (z:=8) (n:=4) (l:=(gN gJ).flatMap bY) rfl rfl rfl rfl (.one .sl) (by rfl) (by rfl) ?_
       refine WO.two (i:=6) (j:=10) (by kernel_rfl) ?_ ?_
       ·refine dC 6 rfl rC jU ⟨aB rfl,a1 rfl,rfl⟩ (.tup [.agg [.t (.s false 66 24 (dH gJ).length ((dH gJ).flatMap (cF true))),.t (.s false 46 14 hH.length (hH.flatMap (dP true)))],.one (tv (.int .i64 0))]) ?_
        refine df 7 ?_;refine df 8 ?_;refine df 9 ?_;refine eO (key:=4) 10 (by kernel_rfl) rfl rfl aA rfl ⟨rfl,rfl,rfl,trivial⟩ ?_
        refine aY 11 (by kernel_rfl) rfl rfl aA rfl rfl rfl rfl ⟨rfl,rfl,rfl,trivial⟩ ?_
        refine cN 12 (by kernel_rfl) rfl rfl aA rfl (by trivial) ?_ (fun h=>by first | rfl | cases h)
        refine aK ?_;exact⟨(),trivial,aG h0 [0,1,2,4] _ _ (by decide) ⟨rfl,rfl,rfl,rfl,rfl,trivial⟩ ⟨oe rfl rfl,oe rfl rfl,oe rfl rfl,oe rfl rfl,rfl⟩⟩
       refine bM (key:=4) 10 rfl rfl aA rfl ⟨rfl,rfl,rfl,trivial⟩ ?_
       refine aF 6 rfl rC jU ⟨aB rfl,a1 rfl,rfl⟩ (.tup [.agg [.t (.s false 66 24 (dH gJ).length ((dH gJ).flatMap (cF true))),.t (.s false 46 14 hH.length (hH.flatMap (dP true)))],.one (tv (.int .i64 0))]) ?_
       refine df 7 ?_;refine df 8 ?_;refine df 9 ?_;refine aY 11 (by kernel_rfl) rfl rfl aA rfl rfl rfl rfl ⟨rfl,rfl,rfl,trivial⟩ ?_
       refine cN 12 (by kernel_rfl) rfl rfl aA rfl (by trivial) ?_ (fun h=>by first | rfl | cases h)
       refine aK ?_;exact⟨(),trivial,aG h0 [0,1,2,4] _ _ (by decide) ⟨rfl,rfl,rfl,rfl,rfl,trivial⟩ ⟨oe rfl rfl,oe rfl rfl,oe rfl rfl,oe rfl rfl,rfl⟩⟩
      refine bM (key:=3) 10 rfl rfl aA rfl ⟨rfl,rfl,rfl,trivial⟩ ?_;refine fJ (key:=4) 5 (by kernel_rfl) rfl rfl aA rfl ⟨rfl,rfl,rfl,trivial⟩ ?_
      refine jW (i:=35) (k:=4) (t:=70) (t':=70) (z:=8) (n:=4) (l:=(gN gJ).flatMap bY) rfl rfl rfl rfl (.one .sl) (by rfl) (by rfl) ?_
      refine aF 6 rfl rC jU ⟨aB rfl,a1 rfl,rfl⟩ (.tup [.agg [.t (.s false 66 24 (dH gJ).length ((dH gJ).flatMap (cF true))),.t (.s false 46 14 hH.length (hH.flatMap (dP true)))],.one (tv (.int .i64 0))]) ?_
      refine df 7 ?_;refine df 8 ?_;refine df 9 ?_;refine aY 11 (by kernel_rfl) rfl rfl aA rfl rfl rfl rfl ⟨rfl,rfl,rfl,trivial⟩ ?_
      refine cN 12 (by kernel_rfl) rfl rfl aA rfl (by trivial) ?_ (fun h=>by first | rfl | cases h)
      refine aK ?_;exact⟨(),trivial,aG h0 [0,1,2,3] _ _ (by decide) ⟨rfl,rfl,rfl,rfl,rfl,trivial⟩ ⟨oe rfl rfl,oe rfl rfl,oe rfl rfl,oe rfl rfl,rfl⟩⟩
     refine bM (key:=3) 10 rfl rfl aA rfl ⟨rfl,rfl,rfl,trivial⟩ ?_
     refine aF 4 rfl (cW (n:=100) (m:=0) (by omega) (by omega) (by omega) (by omega)) eP ⟨a1 rfl,a1 rfl,rfl⟩ (.agg ((bY (Fr4.of (Rat.divInt (100) 1),Fr4.of (Rat.divInt (0) 1))).map .t)) ?_
     refine fJ (key:=4) 5 (by kernel_rfl) rfl rfl aA rfl ⟨rfl,rfl,rfl,trivial⟩ ?_
     refine jW (i:=35) (k:=4) (t:=70) (t':=70) (z:=8) (n:=4) (l:=(gN gJ).flatMap bY) rfl rfl rfl rfl (.one .sl) (by rfl) (by rfl) ?_
     refine aF 6 rfl rC jU ⟨aB rfl,a1 rfl,rfl⟩ (.tup [.agg [.t (.s false 66 24 (dH gJ).length ((dH gJ).flatMap (cF true))),.t (.s false 46 14 hH.length (hH.flatMap (dP true)))],.one (tv (.int .i64 0))]) ?_
     refine df 7 ?_;refine df 8 ?_;refine df 9 ?_;refine aY 11 (by kernel_rfl) rfl rfl aA rfl rfl rfl rfl ⟨rfl,rfl,rfl,trivial⟩ ?_
     refine cN 12 (by kernel_rfl) rfl rfl aA rfl (by trivial) ?_ (fun h=>by first | rfl | cases h)
     refine aK ?_;exact⟨(),trivial,aG h0 [0,1,2,3] _ _ (by decide) ⟨rfl,rfl,rfl,rfl,rfl,trivial⟩ ⟨oe rfl rfl,oe rfl rfl,oe rfl rfl,oe rfl rfl,rfl⟩⟩
    refine bM (key:=3) 10 rfl rfl aA rfl ⟨rfl,rfl,rfl,trivial⟩ ?_
    refine aF 3 rfl (cW (n:=0) (m:=0) (by omega) (by omega) (by omega) (by omega)) eP ⟨a1 rfl,a1 rfl,rfl⟩ (.agg ((bY (Fr4.of (Rat.divInt (0) 1),Fr4.of (Rat.divInt (0) 1))).map .t)) ?_
    refine aF 4 rfl (cW (n:=100) (m:=0) (by omega) (by omega) (by omega) (by omega)) eP ⟨a1 rfl,a1 rfl,rfl⟩ (.agg ((bY (Fr4.of (Rat.divInt (100) 1),Fr4.of (Rat.divInt (0) 1))).map .t)) ?_
    refine fJ (key:=4) 5 (by kernel_rfl) rfl rfl aA rfl ⟨rfl,rfl,rfl,trivial⟩ ?_
    refine jW (i:=35) (k:=4) (t:=70) (t':=70) (z:=8) (n:=4) (l:=(gN gJ).flatMap bY) rfl rfl rfl rfl (.one .sl) (by rfl) (by rfl) ?_
    refine aF 6 rfl rC jU ⟨aB rfl,a1 rfl,rfl⟩ (.tup [.agg [.t (.s false 66 24 (dH gJ).length ((dH gJ).flatMap (cF true))),.t (.s false 46 14 hH.length (hH.flatMap (dP true)))],.one (tv (.int .i64 0))]) ?_
    refine df 7 ?_;refine df 8 ?_;refine df 9 ?_;refine aY 11 (by kernel_rfl) rfl rfl aA rfl rfl rfl rfl ⟨rfl,rfl,rfl,trivial⟩ ?_
    refine cN 12 (by kernel_rfl) rfl rfl aA rfl (by trivial) ?_ (fun h=>by first | rfl | cases h)
    refine aK ?_;exact⟨(),trivial,aG h0 [0,1,2,3] _ _ (by decide) ⟨rfl,rfl,rfl,rfl,rfl,trivial⟩ ⟨oe rfl rfl,oe rfl rfl,oe rfl rfl,oe rfl rfl,rfl⟩⟩
   refine bM (key:=3) 10 rfl rfl aA rfl ⟨rfl,rfl,rfl,trivial⟩ ?_
   refine aF 2 rfl (cW (n:=0) (m:=0) (by omega) (by omega) (by omega) (by omega)) eP ⟨a1 rfl,a1 rfl,rfl⟩ (.agg ((bY (Fr4.of (Rat.divInt (0) 1),Fr4.of (Rat.divInt (0) 1))).map .t)) ?_
   refine aF 3 rfl (cW (n:=0) (m:=0) (by omega) (by omega) (by omega) (by omega)) eP ⟨a1 rfl,a1 rfl,rfl⟩ (.agg ((bY (Fr4.of (Rat.divInt (0) 1),Fr4.of (Rat.divInt (0) 1))).map .t)) ?_
   refine aF 4 rfl (cW (n:=100) (m:=0) (by omega) (by omega) (by omega) (by omega)) eP ⟨a1 rfl,a1 rfl,rfl⟩ (.agg ((bY (Fr4.of (Rat.divInt (100) 1),Fr4.of (Rat.divInt (0) 1))).map .t)) ?_
   refine fJ (key:=4) 5 (by kernel_rfl) rfl rfl aA rfl ⟨rfl,rfl,rfl,trivial⟩ ?_
   refine jW (i:=35) (k:=4) (t:=70) (t':=70) (z:=8) (n:=4) (l:=(gN gJ).flatMap bY) rfl rfl rfl rfl (.one .sl) (by rfl) (by rfl) ?_
   refine aF 6 rfl rC jU ⟨aB rfl,a1 rfl,rfl⟩ (.tup [.agg [.t (.s false 66 24 (dH gJ).length ((dH gJ).flatMap (cF true))),.t (.s false 46 14 hH.length (hH.flatMap (dP true)))],.one (tv (.int .i64 0))]) ?_
   refine df 7 ?_;refine df 8 ?_;refine df 9 ?_;refine aY 11 (by kernel_rfl) rfl rfl aA rfl rfl rfl rfl ⟨rfl,rfl,rfl,trivial⟩ ?_
   refine cN 12 (by kernel_rfl) rfl rfl aA rfl (by trivial) ?_ (fun h=>by first | rfl | cases h)
   refine aK ?_;exact⟨(),trivial,aG h0 [0,1,2,3] _ _ (by decide) ⟨rfl,rfl,rfl,rfl,rfl,trivial⟩ ⟨oe rfl rfl,oe rfl rfl,oe rfl rfl,oe rfl rfl,rfl⟩⟩
  refine bM (key:=3) 10 rfl rfl aA rfl ⟨rfl,rfl,rfl,trivial⟩ ?_
  refine aF 1 rfl (cW (n:=-10) (m:=0) (by omega) (by omega) (by omega) (by omega)) eP ⟨a1 rfl,a1 rfl,rfl⟩ (.agg ((bY (Fr4.of (Rat.divInt (-10) 1),Fr4.of (Rat.divInt (0) 1))).map .t)) ?_
  refine aF 2 rfl (cW (n:=0) (m:=0) (by omega) (by omega) (by omega) (by omega)) eP ⟨a1 rfl,a1 rfl,rfl⟩ (.agg ((bY (Fr4.of (Rat.divInt (0) 1),Fr4.of (Rat.divInt (0) 1))).map .t)) ?_
  refine aF 3 rfl (cW (n:=0) (m:=0) (by omega) (by omega) (by omega) (by omega)) eP ⟨a1 rfl,a1 rfl,rfl⟩ (.agg ((bY (Fr4.of (Rat.divInt (0) 1),Fr4.of (Rat.divInt (0) 1))).map .t)) ?_
  refine aF 4 rfl (cW (n:=100) (m:=0) (by omega) (by omega) (by omega) (by omega)) eP ⟨a1 rfl,a1 rfl,rfl⟩ (.agg ((bY (Fr4.of (Rat.divInt (100) 1),Fr4.of (Rat.divInt (0) 1))).map .t)) ?_
  refine fJ (key:=4) 5 (by kernel_rfl) rfl rfl aA rfl ⟨rfl,rfl,rfl,trivial⟩ ?_
  refine jW (i:=35) (k:=4) (t:=70) (t':=70) (z:=8) (n:=4) (l:=(gN gJ).flatMap bY) rfl rfl rfl rfl (.one .sl) (by rfl) (by rfl) ?_
  refine aF 6 rfl rC jU ⟨aB rfl,a1 rfl,rfl⟩ (.tup [.agg [.t (.s false 66 24 (dH gJ).length ((dH gJ).flatMap (cF true))),.t (.s false 46 14 hH.length (hH.flatMap (dP true)))],.one (tv (.int .i64 0))]) ?_
  refine df 7 ?_;refine df 8 ?_;refine df 9 ?_;refine aY 11 (by kernel_rfl) rfl rfl aA rfl rfl rfl rfl ⟨rfl,rfl,rfl,trivial⟩ ?_
  refine cN 12 (by kernel_rfl) rfl rfl aA rfl (by trivial) ?_ (fun h=>by first | rfl | cases h)
  refine aK ?_;exact⟨(),trivial,aG h0 [0,1,2,3] _ _ (by decide) ⟨rfl,rfl,rfl,rfl,rfl,trivial⟩ ⟨oe rfl rfl,oe rfl rfl,oe rfl rfl,oe rfl rfl,rfl⟩⟩
 refine sq ?_;refine sq ?_
 refine WP.sub ((Om (j:=3) (p:=0) (y:=.s false 66 24 (dH gJ).length ((dH gJ).flatMap (cF true))) (l':=[.t (dN false false (dH gJ)),.t (.s false 46 14 hH.length (hH.flatMap (dP true)))]) rfl rfl rfl (by rw[gR,Ru];rfl)).trans (Om (j:=3) (p:=1) (y:=.s false 46 14 hH.length (hH.flatMap (dP true))) (l':=[.t (dN false false (dH gJ)),.t (cP false false hH)]) rfl rfl rfl (by rw[gR,Rx];rfl))) ?_
 refine rl ?_;(iterate 3 refine o1 ?_);refine WL.split (t:=41) rfl (fun h1=>?_) (fun h1=>?_)
 ·exact absurd h1 (by omega)
 refine o1 ?_;refine ld ?_;(iterate 4 refine o1 ?_);refine WL.split (t:=47) rfl (fun h2=>?_) (fun h2=>?_)
 ·exact absurd h2 (by omega)
 refine o1 ?_;refine ld ?_;(iterate 4 refine o1 ?_);refine WL.split (t:=53) rfl (fun h3=>?_) (fun h3=>?_)
 ·exact absurd h3 (by omega)
 refine o1 ?_;refine ld ?_;(iterate 4 refine o1 ?_);refine WL.split (t:=59) rfl (fun h4=>?_) (fun h4=>?_)
 ·exact absurd h4 (by omega)
 refine o1 ?_;refine ld ?_;(iterate 3 refine o1 ?_);refine nl ?_;refine bS rfl (fun h5=>?_) (fun h5=>?_)
 ·exact absurd h5 (by omega)
 refine sk ?_;refine sq ?_;refine rd [0,1,2,3] (fun i=>[75].contains i) mixed ?_
 refine dv 0 ?_;refine aJ 1 ?_;refine dv 2 ?_;refine dv 3 ?_
 refine cO 4 ([.v (.int .i64 (mW gC (0)).v)]) (aQ (f:=(dP false)) (z:=14) (o:=0) (kU false) (lL (by omega)) (Nat.le_of_ble_eq_true rfl) rfl) ?_
 refine dv 5 ?_;refine dv 6 ?_;refine WD.split (t:=71) rfl rfl (fun h6=>?_) (fun h6=>?_)
 ·refine dv 7 ?_;refine aJ 8 ?_;refine dv 9 ?_;refine dv 10 ?_
  refine cO 11 ([.v (.int .i64 (mW gC (0)).y)]) (aQ (f:=(dP false)) (z:=14) (o:=1) (kU false) (lL (by omega)) (Nat.le_of_ble_eq_true rfl) rfl) ?_
  refine dv 12 ?_;refine dv 13 ?_;refine dv 14 ?_;refine WD.split (t:=79) rfl rfl (fun h7=>?_) (fun h7=>?_)
  ·refine dv 15 ?_;refine aJ 16 ?_;refine dv 17 ?_;refine dv 18 ?_
   refine cO 19 ((Fr4.of (mW gC (0)).n).tr false) (aQ (f:=(dP false)) (z:=14) (o:=2) (kU false) (lL (by omega)) (Nat.le_of_ble_eq_true rfl) rfl) ?_
   refine aF 20 rfl (xO (n:=50) (d:=1) (by omega) (by omega) (by omega) (by omega)) xP ⟨a1 rfl,a1 rfl,rfl⟩ (qF (.of (Rat.divInt 50 1))) ?_
   refine aF 21 rfl (tW (p:=(mW gC (0)).n) (q:=(Rat.divInt 50 1)) ((eQ (n:=50) (d:=1) (by omega) (by omega) (by omega) (by omega)).mono (by omega)) (by decide+kernel)) sX ⟨aB rfl,aB rfl,rfl⟩ (.one (tv (.bool true))) ?_
   refine df 22 ?_;refine df 23 ?_;refine dv 24 ?_;refine aJ 25 ?_;refine dv 26 ?_;refine dv 27 ?_
   refine cO 28 ((Fr4.of (mW fE (0)).n).tr false) (aQ (f:=(dP false)) (z:=14) (o:=2) (kU false) (lL (by omega)) (Nat.le_of_ble_eq_true rfl) rfl) ?_
   refine aF 29 rfl (xO (n:=60) (d:=1) (by omega) (by omega) (by omega) (by omega)) xP ⟨a1 rfl,a1 rfl,rfl⟩ (qF (.of (Rat.divInt 60 1))) ?_
   refine aF 30 rfl (tW (p:=(mW fE (0)).n) (q:=(Rat.divInt 60 1)) ((eQ (n:=60) (d:=1) (by omega) (by omega) (by omega) (by omega)).mono (by omega)) (by decide+kernel)) sX ⟨aB rfl,aB rfl,rfl⟩ (.one (tv (.bool true))) ?_
   refine df 31 ?_;refine df 32 ?_;refine dv 33 ?_;refine aJ 34 ?_;refine dv 35 ?_;refine dv 36 ?_
   refine cO 37 ([.v (.int .i64 (mW fE (1)).y)]) (aQ (f:=(dP false)) (z:=14) (o:=1) (kU false) (lL (by omega)) (Nat.le_of_ble_eq_true rfl) rfl) ?_
   refine dv 38 ?_;refine df 39 ?_;refine df 40 ?_;refine WD.split (t:=105) rfl rfl (fun h8=>?_) (fun h8=>?_)
   ·refine dv 41 ?_;refine aJ 42 ?_;refine dv 43 ?_;refine dv 44 ?_
    refine cO 45 ((Fr4.of (mW fE (1)).n).tr false) (aQ (f:=(dP false)) (z:=14) (o:=2) (kU false) (lL (by omega)) (Nat.le_of_ble_eq_true rfl) rfl) ?_
    refine aF 46 rfl (xO (n:=18) (d:=1) (by omega) (by omega) (by omega) (by omega)) xP ⟨a1 rfl,a1 rfl,rfl⟩ (qF (.of (Rat.divInt 18 1))) ?_
    refine aF 47 rfl (tW (p:=(mW fE (1)).n) (q:=(Rat.divInt 18 1)) ((eQ (n:=18) (d:=1) (by omega) (by omega) (by omega) (by omega)).mono (by omega)) (by decide+kernel)) sX ⟨aB rfl,aB rfl,rfl⟩ (.one (tv (.bool true))) ?_
    refine df 48 ?_;refine df 49 ?_;refine dv 50 ?_;refine aJ 51 ?_;refine dv 52 ?_;refine dv 53 ?_
    refine cO 54 ([.v (.int .i64 (mW fE (2)).y)]) (aQ (f:=(dP false)) (z:=14) (o:=1) (kU false) (lL (by omega)) (Nat.le_of_ble_eq_true rfl) rfl) ?_
    refine dv 55 ?_;refine df 56 ?_;refine df 57 ?_;refine WD.split (t:=122) rfl rfl (fun h9=>?_) (fun h9=>?_)
    ·refine dv 58 ?_;refine aJ 59 ?_;refine dv 60 ?_;refine dv 61 ?_
     refine cO 62 ((Fr4.of (mW fE (2)).n).tr false) (aQ (f:=(dP false)) (z:=14) (o:=2) (kU false) (lL (by omega)) (Nat.le_of_ble_eq_true rfl) rfl) ?_
     refine aF 63 rfl (xO (n:=2) (d:=1) (by omega) (by omega) (by omega) (by omega)) xP ⟨a1 rfl,a1 rfl,rfl⟩ (qF (.of (Rat.divInt 2 1))) ?_
     refine aF 64 rfl (tW (p:=(mW fE (2)).n) (q:=(Rat.divInt 2 1)) ((eQ (n:=2) (d:=1) (by omega) (by omega) (by omega) (by omega)).mono (by omega)) (by decide+kernel)) sX ⟨aB rfl,aB rfl,rfl⟩ (.one (tv (.bool true))) ?_
     refine df 65 ?_;refine df 66 ?_;refine dv 67 ?_;refine aJ 68 ?_;refine dv 69 ?_;refine dv 70 ?_
     refine cO 71 ((Fr4.of (aD (dH gJ) (0)).e).tr false) (aQ (f:=(cF false)) (z:=24) (o:=16) (dU false) (iQ (by omega)) (Nat.le_of_ble_eq_true rfl) rfl) ?_
     refine aF 72 rfl (xO (n:=10) (d:=1) (by omega) (by omega) (by omega) (by omega)) xP ⟨a1 rfl,a1 rfl,rfl⟩ (qF (.of (Rat.divInt 10 1))) ?_
     refine aF 73 rfl (tW (p:=(aD (dH gJ) (0)).e) (q:=(Rat.divInt 10 1)) ((eQ (n:=10) (d:=1) (by omega) (by omega) (by omega) (by omega)).mono (by omega)) QI) sX ⟨aB rfl,aB rfl,rfl⟩ (.one (tv (.bool true))) ?_
     refine df 74 ?_;refine cN 75 (by kernel_rfl) rfl rfl aA rfl (by trivial) ?_ (fun h=>by first | rfl | cases h)
     refine aK ?_;refine rt ?_;exact en (.inl rfl) rfl (aP (bL _)) (by decide) (fun _=>trivial) rfl
    exact absurd (by decide+kernel) h9
   exact absurd (by decide+kernel) h8
  exact absurd (by decide+kernel) h7
 exact absurd (by decide+kernel) h6
section
variable {α:Type}
end
section
variable {x:Cx}{g:Nat→FV}{ob:List (Option Ob)}
end
section
variable {α:Type}{f:α→List Tr}{z o k:Nat}{xs:List α}{y y':α}{us us':List Tr}{mid:List AV}
def CT (sp:α→α) (xs:List α) (i:Nat):List α:=(xs.take i).map sp++xs.drop i
variable {sp:α→α}{i:Nat}
end
def CU (a:Fr4):Fr4:=⟨a.s,List.replicate a.x.length 77,a.t,List.replicate a.y.length 77⟩
def U5:Type:=Int×Int×Fr4×Fr4×Fr4
def Zr (u:Us):U5:=(u.v,u.y,.of u.n,.of u.p,.of u.q)
def LQ (u:U5):List Tr:=.v (.int .i64 u.1)::.v (.int .i64 u.2.1)::(u.2.2.1.tr true++(u.2.2.2.1.tr true++u.2.2.2.2.tr true))
def LR (u:U5):U5:=(u.1,u.2.1,CU u.2.2.1,u.2.2.2.1,u.2.2.2.2)
def SP (u:U5):U5:=(u.1,u.2.1,u.2.2.1,u.2.2.2.1,CU u.2.2.2.2)
def R6:Type:=Fr4×Fr4×Fr4×Fr4×Fr4×Fr4
def Zs (r:Rw):R6:=(.of r.l,.of r.m,.of r.u,.of r.t,.of r.e,.of r.c)
def LS (r:R6):List Tr:=r.1.tr true++(r.2.1.tr true++(r.2.2.1.tr true++(r.2.2.2.1.tr true++(r.2.2.2.2.1.tr true++r.2.2.2.2.2.tr true))))
def LT (r:R6):R6:=(CU r.1,r.2.1,r.2.2.1,r.2.2.2.1,r.2.2.2.2.1,r.2.2.2.2.2)
def SQ (r:R6):R6:=(r.1,r.2.1,CU r.2.2.1,r.2.2.2.1,r.2.2.2.2.1,r.2.2.2.2.2)
def u0 (us:List Us) (i:Nat):List AV:=((CT (fun u=>SP (LR u)) (us.map Zr) i).flatMap LQ).map .t
def u1 (us:List Us) (i:Nat):List AV:=(((CT (fun u=>SP (LR u)) (us.map Zr) i).set i (LR (Zr (mW us i)))).flatMap LQ).map .t
def r0 (rs:List Rw) (i:Nat):List AV:=((CT (fun r=>SQ (LT r)) (rs.map Zs) i).flatMap LS).map .t
def r1 (rs:List Rw) (i:Nat):List AV:=(((CT (fun r=>SQ (LT r)) (rs.map Zs) i).set i (LT (Zs (aD rs i)))).flatMap LS).map .t
section
variable {us:List Us}{rs:List Rw}{i k1 k2:Nat}
variable {l:List AV}{o:Nat}{a:Fr4}
end
theorem Vj {ys:List (Fr4×Fr4)}{k:Nat}(h:k<ys.length):ys.take (k+1)=ys.take k++[bX ys k]:=by
 rw[List.take_add_one,eW h]
 rfl
theorem QJ {c:Fr4}{bk fw:Int}(hc:c.len 1099511627776):aE false Tryz.prog 15 [] [.agg ((c.tr false++[.v (.int .i64 bk),.v (.int .i64 fw)]:List Tr).map .t)] (aO (.agg ((c.tr false++[.v (.int .i64 bk),.v (.int .i64 fw)]:List Tr).map .t))):=by
 refine bF Tryz.func15 rfl Tryz.ntmps15 rfl aA rfl fun N w c0 h0=>?_
 refine sq ?_;refine rl ?_;refine bx 0 ?_;refine al 1 ?_;refine nl ?_;refine sq ?_;refine rd [0,1] (fun i=>[8].contains i) mixed ?_
 refine dv 0 ?_;refine aJ 1 ?_;refine dv 3 ?_;refine aJ 4 ?_;refine dv 5 ?_;refine aJ 6 ?_;refine aF 2 rfl (gW (a:=c) hc) pM ⟨aB rfl,rfl⟩ (qF c) ?_;refine df 7 ?_
 refine dst 8 ?_;refine aK ?_;refine rt ?_
 exact en (.inl rfl) rfl (aP (.agg (.cons (.id rfl) (.cons (.id rfl) (.cons (.id rfl) (.cons (.id rfl) (.cons (.id rfl) (.cons (.id rfl) .nil)))))))) (by decide) (fun h=>by cases h) rfl
theorem Ry {ys:List (Fr4×Fr4)}(hys:∀y∈ys,y.1.len 1099511627776∧y.2.len 1099511627776) (hl:ys.length≤1073741822):aE false Tryz.prog 13 [] [.one (.t (fQ ys))] (aO (.one (.t (.s true 72 8 ys.length (ys.flatMap bY))))):=by
 refine bF Tryz.func13 rfl Tryz.ntmps13 rfl aA rfl fun N w c0 h0=>?_
 refine sq ?_;refine rl ?_;refine o1 ?_;refine nl ?_;refine sq ?_;refine rl ?_;refine o1 ?_;refine nl ?_;refine sq ?_;refine sq ?_;refine rl ?_;refine o1 ?_;refine nl ?_;refine bl ?_
 refine lp (γ:=Nat) (fun k=>bV [(0,.one (.t (fQ ys))),(3,.one (.sl 0 0 k)),(4,.one (tv (.int .i64 ((k:Nat):Int))))]) (fun k=>[(⟨72,8,((ys.take k).flatMap bY).map .t⟩:Ob)].map some) (fun k=>k≤ys.length) (fun k=>ys.length-k) 0 (Nat.zero_le _) ((nr (i:=3) 0 72 8 rfl rfl rfl rfl).trans (aG h0 [0] _ _ (by decide) ⟨rfl,rfl,rfl,trivial⟩ ⟨aT rfl,rfl⟩)) fun k hk=>?_
 refine sq ?_;refine sq ?_;refine rl ?_;(iterate 4 refine o1 ?_);refine nl ?_;refine bS rfl (fun h1=>?_) (fun h1=>?_)
 ·refine sk ?_;refine sq ?_;refine bl ?_;refine rd [] (fun i=>[16].contains i) mixed ?_
  refine dv 0 ?_;refine dv 1 ?_;refine dv 2 ?_;refine dv 3 ?_;refine dv 4 ?_
  refine cO 5 ((bX ys (k)).1.tr false) (aQ (f:=bY) (z:=8) (o:=0) dA (eW (by omega)) (Nat.le_of_ble_eq_true rfl) rfl) ?_
  refine dv 7 ?_;refine dv 8 ?_;refine dv 9 ?_;refine dv 10 ?_
  refine cO 11 ((bX ys (k)).2.tr false) (aQ (f:=bY) (z:=8) (o:=4) dA (eW (by omega)) (Nat.le_of_ble_eq_true rfl) rfl) ?_
  refine aF 6 rfl (gW (a:=(bX ys (k)).1) (hys _ (iG (by omega))).1) pM ⟨aB rfl,rfl⟩ (qF (bX ys (k)).1) ?_
  refine aF 12 rfl (gW (a:=(bX ys (k)).2) (hys _ (iG (by omega))).2) pM ⟨aB rfl,rfl⟩ (qF (bX ys (k)).2) ?_
  refine df 13 ?_;refine fJ (key:=1) 14 (by kernel_rfl) rfl rfl aA rfl trivial ?_
  refine nJ (j:=2) (n:=k) (l:=((ys.take k).flatMap bY).map .t) 15 rfl aA rfl rfl rfl (.sl rfl (by rw[List.length_map,xQ,List.length_take,Nat.min_eq_left (by omega)])) (.sl rfl rfl rfl) rfl rfl (by omega) (by omega) rfl trivial rfl (by kernel_rfl) rfl ?_
  refine cN 16 (by kernel_rfl) rfl rfl aA rfl (by trivial) ?_ (fun h=>by first | rfl | cases h)
  refine aK ?_;refine rl ?_;refine o1 ?_;refine o1 ?_;refine WL.cast (t:=10) (u':=.int .i64 ((k+1:Nat):Int)) rfl (aI (by omega)) ?_
  refine o1 ?_;refine nl ?_
  have hst:((ys.take k).flatMap bY).map AV.t++(bY (bX ys k)).map .t=((ys.take (k+1)).flatMap bY).map .t:=by rw[Vj (by omega),List.flatMap_append,List.map_append];simp
  exact⟨k+1,by omega,by omega,aG h0 [2] _ _ (by decide) ⟨rfl,rfl,rfl,trivial⟩ ⟨aT (congrArg (fun l:List AV=>some (⟨72,8,l⟩:Ob)) hst),rfl⟩⟩
 refine ex ?_;refine sq ?_;refine rl ?_;refine o1 ?_;refine o1 ?_;refine nl ?_;refine rt ?_;have hkk:ys.take k=ys:=List.take_of_length_le (by omega)
 have hkn:k=ys.length:=by omega
 exact en (.inl rfl) rfl (aP (.one (.sl (trs:=(ys.take k).flatMap bY) rfl rfl (cC _ _ (by rw[xQ,List.length_take,Nat.min_eq_left (by omega)])) (by rw[xQ,List.length_take,Nat.min_eq_left (by omega)])))) (by decide) (fun h=>by cases h) (by rw[hkk,hkn];rfl)
theorem FW {rs:List Rf}{us:List Uf}(hJ:JOk rs us):aE false Tryz.prog 11 [] [.agg (([fV rs,jL us]:List Tr).map .t)] (aO (.agg [.t (jO true rs),.t (jP true us)])):=by
 refine bF Tryz.func11 rfl Tryz.ntmps11 rfl aA rfl fun N w c0 h0=>?_
 have hl:=hJ.rl;have hlu:=hJ.ul
 refine sq ?_;refine rl ?_;refine bx 0 ?_;refine al 1 ?_;refine nl ?_;refine sq ?_;refine rl ?_;refine al 2 ?_;refine nl ?_;refine sq ?_;refine sq ?_
 refine WP.sub ((Uh (j:=2) (key:=3) (e:=68) (z:=24) rfl rfl rfl (.sl (.id .nil))).trans (Uh (j:=2) (key:=4) (e:=51) (z:=14) rfl rfl rfl (.id (.sl .nil)))) ?_;refine rl ?_
 refine o1 ?_;refine nl ?_;refine bl ?_
 refine lp (γ:=Nat) (fun k=>bV [(1,.one (.pt 0 0)),(2,.one (.pt 1 0)),(3,.one (.pt 2 0)),(4,.one (tv (.int .i64 ((k:Nat):Int))))]) (fun k=>[(⟨35,0,[.t (fV rs),.t (jL us)]⟩:Ob),⟨42,0,[tv (.slice none 0 0),tv (.slice none 0 0)]⟩,⟨42,0,[.sl 3 0 (k),.sl 4 0 0]⟩,⟨68,24,xE (rs.take k)⟩,⟨51,14,xF []⟩].map some) (fun k=>k≤rs.length) (fun k=>rs.length-k) 0 (Nat.zero_le _) (aG h0 [0,1,2,3,4] _ _ (by decide) ⟨rfl,rfl,rfl,rfl,trivial⟩ ⟨oe rfl rfl,oe rfl rfl,oe rfl rfl,aT rfl,aT rfl,rfl⟩) fun k hk=>?_
 refine sq ?_;refine sq ?_;refine rl ?_;refine o1 ?_;refine o1 ?_;refine ld ?_;refine o1 ?_;refine o1 ?_;refine nl ?_;refine bS rfl (fun h1=>?_) (fun h1=>?_)
 ·refine sk ?_;refine sq ?_;refine bl ?_;refine sq ?_;refine rl ?_;refine o1 ?_;refine ld ?_;refine o1 ?_;refine o1 ?_
  refine cR ((iC false) (aN rs (k))) (aQ (f:=(iC false)) (z:=24) (o:=0) (iX false) (fS (rs:=rs) (k:=k) (by omega)) (Nat.le_of_ble_eq_true rfl) rfl) ?_
  refine al 5 ?_;refine st ?_;refine nl ?_;refine rd [0,1,2,5] (fun i=>[24].contains i) mixed ?_
  refine dv 0 ?_;refine aJ 1 ?_;refine dv 2 ?_;refine aJ 3 ?_;refine dv 5 ?_;refine aJ 6 ?_;refine dv 8 ?_;refine aJ 9 ?_;refine dv 11 ?_;refine aJ 12 ?_;refine dv 14 ?_
  refine aJ 15 ?_;refine dv 17 ?_;refine aJ 18 ?_
  refine aF 4 rfl (gW (a:=(aN rs (k)).l) (hJ.r _ (aS (rs:=rs) (k:=k) (by omega))).1.2.2) pM ⟨aB rfl,rfl⟩ (qF (aN rs (k)).l) ?_
  refine aF 7 rfl (gW (a:=(aN rs (k)).m) (hJ.r _ (aS (rs:=rs) (k:=k) (by omega))).2.1.2.2) pM ⟨aB rfl,rfl⟩ (qF (aN rs (k)).m) ?_
  refine aF 10 rfl (gW (a:=(aN rs (k)).u) (hJ.r _ (aS (rs:=rs) (k:=k) (by omega))).2.2.1.2.2) pM ⟨aB rfl,rfl⟩ (qF (aN rs (k)).u) ?_
  refine aF 13 rfl (gW (a:=(aN rs (k)).t) (hJ.r _ (aS (rs:=rs) (k:=k) (by omega))).2.2.2.1.2.2) pM ⟨aB rfl,rfl⟩ (qF (aN rs (k)).t) ?_
  refine aF 16 rfl (gW (a:=(aN rs (k)).e) (hJ.r _ (aS (rs:=rs) (k:=k) (by omega))).2.2.2.2.1.2.2) pM ⟨aB rfl,rfl⟩ (qF (aN rs (k)).e) ?_
  refine aF 19 rfl (gW (a:=(aN rs (k)).c) (hJ.r _ (aS (rs:=rs) (k:=k) (by omega))).2.2.2.2.2.2.2) pM ⟨aB rfl,rfl⟩ (qF (aN rs (k)).c) ?_
  refine df 20 ?_;refine fJ (key:=6) 21 (by kernel_rfl) rfl rfl aA rfl ⟨rfl,rfl,rfl,rfl,trivial⟩ ?_
  refine nJ (j:=7) (n:=k) (l:=xE (rs.take k)) 22 rfl aA rfl rfl rfl (.sl rfl (by rw[Ym,List.length_take,Nat.min_eq_left (by omega)])) (.sl rfl rfl rfl) rfl rfl (by omega) (by omega) rfl ⟨rfl,rfl,rfl,rfl,trivial⟩ rfl (by kernel_rfl) rfl ?_
  refine dv 23 ?_;refine dst 24 ?_;refine aK ?_;refine rl ?_;refine o1 ?_;refine o1 ?_;refine WL.cast (t:=14) (u':=.int .i64 ((k+1:Nat):Int)) rfl (aI (by omega)) ?_
  refine o1 ?_;refine nl ?_
  exact⟨k+1,by omega,by omega,aG h0 [0,1,2,7,4] _ _ (by decide) ⟨rfl,rfl,rfl,rfl,trivial⟩ ⟨oe rfl rfl,oe rfl rfl,oe rfl rfl,aT (congrArg (fun l:List AV=>some (⟨68,24,l⟩:Ob)) ((Uo _ _).trans (congrArg xE (Un (by omega)).symm))),aT rfl,rfl⟩⟩
 refine ex ?_;refine sq ?_;refine sq ?_;refine rl ?_;refine o1 ?_;refine nl ?_;refine bl ?_
 refine lp (γ:=Nat) (fun k=>bV [(1,.one (.pt 0 0)),(2,.one (.pt 1 0)),(3,.one (.pt 2 0)),(6,.one (tv (.int .i64 ((k:Nat):Int))))]) (fun k=>[(⟨35,0,[.t (fV rs),.t (jL us)]⟩:Ob),⟨42,0,[tv (.slice none 0 0),tv (.slice none 0 0)]⟩,⟨42,0,[.sl 3 0 rs.length,.sl 4 0 (k)]⟩,⟨68,24,xE rs⟩,⟨51,14,xF (us.take k)⟩].map some) (fun k=>k≤us.length) (fun k=>us.length-k) 0 (Nat.zero_le _) (aG h0 [0,1,2,3,4] _ _ (by decide) ⟨rfl,rfl,rfl,rfl,trivial⟩ ⟨oe rfl rfl,oe rfl rfl,oe rfl (congrArg (fun n=>some (⟨42,0,[.sl 3 0 n,.sl 4 0 0]⟩:Ob)) (show k=rs.length by omega)),aT (congrArg (fun l:List Rf=>some (⟨68,24,(l.flatMap (iC false)).map .t⟩:Ob)) (show rs.take k=rs from List.take_of_length_le (by omega))),aT rfl,rfl⟩) fun k2 hk2=>?_
 refine sq ?_;refine sq ?_;refine rl ?_;refine o1 ?_;refine o1 ?_;refine ld ?_;refine o1 ?_;refine o1 ?_;refine nl ?_;refine bS rfl (fun h2=>?_) (fun h2=>?_)
 ·refine sk ?_;refine sq ?_;refine bl ?_;refine sq ?_;refine rl ?_;refine o1 ?_;refine ld ?_;refine o1 ?_;refine o1 ?_
  refine cR ((fA false) (bK us (k2))) (aQ (f:=(fA false)) (z:=14) (o:=0) (eM false) (dG (us:=us) (k:=k2) (by omega)) (Nat.le_of_ble_eq_true rfl) rfl) ?_
  refine al 5 ?_;refine st ?_;refine nl ?_;refine rd [0,1,2,5] (fun i=>[19].contains i) mixed ?_
  refine dv 0 ?_;refine aJ 1 ?_;refine dv 2 ?_;refine aJ 3 ?_;refine dv 4 ?_;refine aJ 5 ?_;refine dv 6 ?_;refine aJ 7 ?_;refine dv 9 ?_;refine aJ 10 ?_;refine dv 12 ?_
  refine aJ 13 ?_;refine aF 8 rfl (gW (a:=(bK us (k2)).n) (hJ.u _ (dW (us:=us) (k:=k2) (by omega))).1.2.2) pM ⟨aB rfl,rfl⟩ (qF (bK us (k2)).n) ?_
  refine aF 11 rfl (gW (a:=(bK us (k2)).p) (hJ.u _ (dW (us:=us) (k:=k2) (by omega))).2.1.2.2) pM ⟨aB rfl,rfl⟩ (qF (bK us (k2)).p) ?_
  refine aF 14 rfl (gW (a:=(bK us (k2)).q) (hJ.u _ (dW (us:=us) (k:=k2) (by omega))).2.2.2.2) pM ⟨aB rfl,rfl⟩ (qF (bK us (k2)).q) ?_
  refine df 15 ?_;refine fJ (key:=6) 16 (by kernel_rfl) rfl rfl aA rfl ⟨rfl,rfl,rfl,rfl,trivial⟩ ?_
  refine nJ (j:=7) (n:=k2) (l:=xF (us.take k2)) 17 rfl aA rfl rfl rfl (.sl rfl (by rw[Yn,List.length_take,Nat.min_eq_left (by omega)])) (.sl rfl rfl rfl) rfl rfl (by omega) (by omega) rfl ⟨rfl,rfl,rfl,rfl,trivial⟩ rfl (by kernel_rfl) rfl ?_
  refine dv 18 ?_;refine dst 19 ?_;refine aK ?_;refine rl ?_;refine o1 ?_;refine o1 ?_;refine WL.cast (t:=50) (u':=.int .i64 ((k2+1:Nat):Int)) rfl (aI (by omega)) ?_
  refine o1 ?_;refine nl ?_
  exact⟨k2+1,by omega,by omega,aG h0 [0,1,2,3,7] _ _ (by decide) ⟨rfl,rfl,rfl,rfl,trivial⟩ ⟨oe rfl rfl,oe rfl rfl,oe rfl rfl,aT rfl,aT (congrArg (fun l:List AV=>some (⟨51,14,l⟩:Ob)) ((Up _ _).trans (congrArg xF (Cs (by omega)).symm))),rfl⟩⟩
 refine ex ?_;refine sq ?_;refine rl ?_;refine ld ?_;refine st ?_;refine nl ?_;refine rt ?_;have hk9:k2=us.length:=by omega
 exact en (.inl rfl) rfl (aP (.agg (.cons (.sl (trs:=rs.flatMap (iC false)) rfl rfl (cC _ _ (Rc _)) (Rc _)) (.cons (.sl (trs:=(us.take k2).flatMap (fA false)) rfl rfl (cC _ _ (by rw[Rb,List.length_take,Nat.min_eq_left (by omega)])) (by rw[Rb,List.length_take,Nat.min_eq_left (by omega)])) .nil)))) (by decide) (fun h=>by cases h) (by rw[hk9,List.take_of_length_le (Nat.le_refl _)];rfl)
theorem Rz {a:Fr4}(h:a.ok∧cB a=true):a.len 1099511627776:=by
 have h2:=h.2
 simp only[cB,Bool.and_eq_true,decide_eq_true_eq]at h2
 exact⟨by omega,by omega⟩
def kP (r:Rf):Bool:=cB r.l&&(cB r.m&&(cB r.u&&(cB r.t&&(cB r.e&&cB r.c))))
def nO (u:Uf):Bool:=cB u.n&&(cB u.p&&cB u.q)
theorem pY {a:Fr4}(h:eV a) (h2:cB a=true):BF a:=⟨h h2,(Gk (h h2) h2).mono (by omega),Rz ⟨h h2,h2⟩⟩
theorem LU {rs:List Rf}{us:List Uf}{k i:Nat}(hr:∀r∈rs,eV r.l∧eV r.m∧eV r.u∧eV r.t∧eV r.e∧eV r.c) (hu:∀u∈us,eV u.n∧eV u.p∧eV u.q) (h1:rs.length≤10000) (h2:us.length≤10000) (h3:∀x,x<k→kP (aN rs x)=true) (h4:rs.length≤k) (h5:∀x,x<i→nO (bK us x)=true) (h6:us.length≤i):JOk rs us:=by
 refine⟨fun r hm=>?_,fun u hm=>?_,h1,h2⟩
 ·obtain⟨j,hj⟩:=List.mem_iff_getElem?.1 hm
  have hl:=(List.getElem?_eq_some_iff.1 hj).1
  rw[fS hl]at hj
  injection hj with hj
  have h7:=h3 j (by omega)
  rw[hj]at h7
  simp only[kP,Bool.and_eq_true]at h7
  obtain⟨a1,a2,a3,a4,a5,a6⟩:=hr r hm
  obtain⟨b1,b2,b3,b4,b5,b6⟩:=h7
  exact⟨pY a1 b1,pY a2 b2,pY a3 b3,pY a4 b4,pY a5 b5,pY a6 b6⟩
 have h7:=List.all_eq_true.1 (Bd h6 h5) u hm
 simp only[nO,Bool.and_eq_true]at h7
 obtain⟨a1,a2,a3⟩:=hu u hm
 exact⟨pY a1 h7.1,pY a2 h7.2.1,pY a3 h7.2.2⟩
theorem Ef {c:Fr4}{bk fw:Int}{ys:List (Fr4×Fr4)}{rs:List Rf}{us:List Uf}(hc:eV c) (hy:∀y∈ys,eV y.1∧eV y.2) (hr:∀r∈rs,eV r.l∧eV r.m∧eV r.u∧eV r.t∧eV r.e∧eV r.c) (hu:∀u∈us,eV u.n∧eV u.p∧eV u.q):aE true Tryz.prog 5 [] [.agg ((c.tr false++[.v (.int .i64 bk),.v (.int .i64 fw)]:List Tr).map .t),.one (.t (fQ ys)),.agg (([fV rs,jL us]:List Tr).map .t)] (aO (.one (tv (.bool true)))):=by
 refine bF Tryz.func5 rfl Tryz.ntmps5 rfl aA rfl fun N9 w9 c0 h0=>?_
 refine sq ?_;refine rl ?_;refine bx 0 ?_;refine bx 1 ?_;refine o1 ?_;refine nl ?_;refine sq ?_;refine sq ?_;refine rl ?_;refine ld ?_;refine o1 ?_
 refine ca (QH (c:=c) (bk:=bk) (fw:=fw) (ys:=ys)) WF ⟨aB rfl,a1 rfl,rfl⟩ (.one (tv (.bool (xB c ys)))) ?_;refine WL.splitb (t:=12) rfl (fun h1=>?_) (fun h1=>?_)
 ·(iterate 3 refine o1 ?_);refine ld ?_;(iterate 4 refine o1 ?_);refine WL.split (t:=20) rfl (fun h2=>?_) (fun h2=>?_)
  ·(iterate 4 refine aX ?_);refine o1 ?_;refine nl ?_;refine fY rfl ?_;refine sq ?_;refine rl ?_;refine ca (qG) On rfl (.one (tv (.bool true))) ?_;refine o1 ?_;refine nl ?_
   refine rt ?_;exact dY (.inl rfl) rfl (rfl)
  refine o1 ?_;refine ld ?_;(iterate 3 refine o1 ?_);refine nl ?_;refine bS rfl (fun h3=>?_) (fun h3=>?_)
  ·refine sq ?_;refine rl ?_;refine ca (qG) On rfl (.one (tv (.bool true))) ?_;refine o1 ?_;refine nl ?_;refine rt ?_;exact dY (.inl rfl) rfl (rfl)
  refine sk ?_;refine sq ?_;refine sq ?_;refine rl ?_;refine o1 ?_;refine nl ?_;refine bl ?_
  refine lp (γ:=Nat) (fun k=>bV [(1,.one (.t (fQ ys))),(3,.one (.pt 0 0)),(5,.one (.pt 1 0)),(7,.one (tv (.int .i64 ((k:Nat):Int))))]) (fun k=>[(⟨28,0,[tv (.bool c.s),.t (sU false c.x),tv (.bool c.t),.t (sU false c.y),tv (.int .i64 bk),tv (.int .i64 fw)]⟩:Ob),⟨35,0,[.t (fV rs),.t (jL us)]⟩].map some) (fun k=>k≤rs.length∧∀x,x<k→kP (aN rs x)=true) (fun k=>rs.length-k) 0 ⟨Nat.zero_le _,f0⟩ (aG h0 [0,1] _ _ (by decide) ⟨rfl,rfl,rfl,rfl,trivial⟩ ⟨oe rfl rfl,oe rfl rfl,rfl⟩) fun k hk=>?_
  refine sq ?_;refine sq ?_;refine rl ?_;refine o1 ?_;refine o1 ?_;refine ld ?_;refine o1 ?_;refine o1 ?_;refine nl ?_;refine bS rfl (fun h4=>?_) (fun h4=>?_)
  ·refine sk ?_;refine sq ?_;refine bl ?_;refine sq ?_;refine rl ?_;refine o1 ?_;refine ld ?_;refine o1 ?_;refine o1 ?_
   refine cR ((iC false) (aN rs (k))) (aQ (f:=(iC false)) (z:=24) (o:=0) (iX false) (fS (rs:=rs) (k:=k) (by omega)) (Nat.le_of_ble_eq_true rfl) rfl) ?_
   refine al 2 ?_;refine st ?_;refine nl ?_
   refine md (γ:=Unit) (fun _=>bV [(1,.one (.t (fQ ys))),(3,.one (.pt 0 0)),(5,.one (.pt 1 0)),(7,.one (tv (.int .i64 ((k:Nat):Int)))),(72,.one (tv (.bool (!kP (aN rs (k))))))]) (fun _=>([⟨28,0,[tv (.bool c.s),.t (sU false c.x),tv (.bool c.t),.t (sU false c.y),tv (.int .i64 bk),tv (.int .i64 fw)]⟩,⟨35,0,[.t (fV rs),.t (jL us)]⟩]:List Ob).map some) (fun _=>True) ?_ fun _ _=>?_
   ·refine rl ?_;refine o1 ?_;refine ld ?_;refine ca (iF (a:=(aN rs (k)).l)) oI ⟨aB rfl,rfl⟩ (.one (tv (.bool (cB (aN rs (k)).l)))) ?_
    refine WL.splitb (t:=41) rfl (fun h5=>?_) (fun h5=>?_)
    ·(iterate 3 refine o1 ?_);refine ld ?_;refine ca (iF (a:=(aN rs (k)).m)) oI ⟨aB rfl,rfl⟩ (.one (tv (.bool (cB (aN rs (k)).m)))) ?_
     refine WL.splitb (t:=46) rfl (fun h6=>?_) (fun h6=>?_)
     ·(iterate 4 refine o1 ?_);refine ld ?_;refine ca (iF (a:=(aN rs (k)).u)) oI ⟨aB rfl,rfl⟩ (.one (tv (.bool (cB (aN rs (k)).u)))) ?_
      refine WL.splitb (t:=52) rfl (fun h7=>?_) (fun h7=>?_)
      ·(iterate 4 refine o1 ?_);refine ld ?_;refine ca (iF (a:=(aN rs (k)).t)) oI ⟨aB rfl,rfl⟩ (.one (tv (.bool (cB (aN rs (k)).t)))) ?_
       refine WL.splitb (t:=58) rfl (fun h8=>?_) (fun h8=>?_)
       ·(iterate 4 refine o1 ?_);refine ld ?_;refine ca (iF (a:=(aN rs (k)).e)) oI ⟨aB rfl,rfl⟩ (.one (tv (.bool (cB (aN rs (k)).e)))) ?_
        refine WL.splitb (t:=64) rfl (fun h9=>?_) (fun h9=>?_)
        ·(iterate 4 refine o1 ?_);refine ld ?_;refine ca (iF (a:=(aN rs (k)).c)) oI ⟨aB rfl,rfl⟩ (.one (tv (.bool (cB (aN rs (k)).c)))) ?_
         refine WL.splitb (t:=70) rfl (fun h10=>?_) (fun h10=>?_)
         ·refine o1 ?_;refine o1 ?_;refine nl ?_
          exact⟨(),trivial,aG h0 [0,1] _ _ (by decide) ⟨rfl,rfl,rfl,rfl,eD (by simp only[kP,h1,decide_eq_false h2,decide_eq_false h3,decide_eq_true h4,h5,h6,h7,h8,h9,h10] <;> first | rfl | simp),trivial⟩ ⟨oe rfl rfl,oe rfl rfl,rfl⟩⟩
         refine o1 ?_;refine o1 ?_;refine nl ?_
         exact⟨(),trivial,aG h0 [0,1] _ _ (by decide) ⟨rfl,rfl,rfl,rfl,eD (by simp only[kP,h1,decide_eq_false h2,decide_eq_false h3,decide_eq_true h4,h5,h6,h7,h8,h9,h10] <;> first | rfl | simp),trivial⟩ ⟨oe rfl rfl,oe rfl rfl,rfl⟩⟩
        (iterate 3 refine o1 ?_);(iterate 4 refine aX ?_);refine o1 ?_;refine nl ?_
        exact⟨(),trivial,aG h0 [0,1] _ _ (by decide) ⟨rfl,rfl,rfl,rfl,eD (by simp only[kP,h1,decide_eq_false h2,decide_eq_false h3,decide_eq_true h4,h5,h6,h7,h8,h9] <;> first | rfl | simp),trivial⟩ ⟨oe rfl rfl,oe rfl rfl,rfl⟩⟩
       (iterate 3 refine o1 ?_);(iterate 4 refine aX ?_);refine o1 ?_;refine o1 ?_;(iterate 4 refine aX ?_);refine o1 ?_;refine nl ?_
       exact⟨(),trivial,aG h0 [0,1] _ _ (by decide) ⟨rfl,rfl,rfl,rfl,eD (by simp only[kP,h1,decide_eq_false h2,decide_eq_false h3,decide_eq_true h4,h5,h6,h7,h8] <;> first | rfl | simp),trivial⟩ ⟨oe rfl rfl,oe rfl rfl,rfl⟩⟩
      (iterate 3 refine o1 ?_);(iterate 4 refine aX ?_);refine o1 ?_;refine o1 ?_;(iterate 4 refine aX ?_);refine o1 ?_;refine o1 ?_;(iterate 4 refine aX ?_);refine o1 ?_
      refine nl ?_
      exact⟨(),trivial,aG h0 [0,1] _ _ (by decide) ⟨rfl,rfl,rfl,rfl,eD (by simp only[kP,h1,decide_eq_false h2,decide_eq_false h3,decide_eq_true h4,h5,h6,h7] <;> first | rfl | simp),trivial⟩ ⟨oe rfl rfl,oe rfl rfl,rfl⟩⟩
     (iterate 3 refine o1 ?_);(iterate 4 refine aX ?_);refine o1 ?_;refine o1 ?_;(iterate 4 refine aX ?_);refine o1 ?_;refine o1 ?_;(iterate 4 refine aX ?_);refine o1 ?_
     refine o1 ?_;(iterate 4 refine aX ?_);refine o1 ?_;refine nl ?_
     exact⟨(),trivial,aG h0 [0,1] _ _ (by decide) ⟨rfl,rfl,rfl,rfl,eD (by simp only[kP,h1,decide_eq_false h2,decide_eq_false h3,decide_eq_true h4,h5,h6] <;> first | rfl | simp),trivial⟩ ⟨oe rfl rfl,oe rfl rfl,rfl⟩⟩
    refine o1 ?_;refine o1 ?_;(iterate 4 refine aX ?_);refine o1 ?_;refine o1 ?_;(iterate 4 refine aX ?_);refine o1 ?_;refine o1 ?_;(iterate 4 refine aX ?_);refine o1 ?_
    refine o1 ?_;(iterate 4 refine aX ?_);refine o1 ?_;refine o1 ?_;(iterate 4 refine aX ?_);refine o1 ?_;refine nl ?_
    exact⟨(),trivial,aG h0 [0,1] _ _ (by decide) ⟨rfl,rfl,rfl,rfl,eD (by simp only[kP,h1,decide_eq_false h2,decide_eq_false h3,decide_eq_true h4,h5] <;> first | rfl | simp),trivial⟩ ⟨oe rfl rfl,oe rfl rfl,rfl⟩⟩
   refine kJ rfl (fun h11=>?_) (fun h11=>?_)
   ·refine sq ?_;refine rl ?_;refine ca (qG) On rfl (.one (tv (.bool true))) ?_;refine o1 ?_;refine nl ?_;refine rt ?_;exact dY (.inl rfl) rfl (rfl)
   refine sk ?_;refine rl ?_;refine o1 ?_;refine o1 ?_;refine WL.cast (t:=33) (u':=.int .i64 ((k+1:Nat):Int)) rfl (aI (by omega)) ?_
   refine o1 ?_;refine nl ?_
   exact⟨k+1,by omega,⟨by omega,jQ (f:=fun x=>kP (aN rs x)) hk.2 (Ka h11)⟩,aG h0 [0,1] _ _ (by decide) ⟨rfl,rfl,rfl,rfl,trivial⟩ ⟨oe rfl rfl,oe rfl rfl,rfl⟩⟩
  refine ex ?_;refine sq ?_;refine sq ?_;refine rl ?_;refine o1 ?_;refine nl ?_;refine bl ?_
  refine lp (γ:=Nat) (fun i=>bV [(1,.one (.t (fQ ys))),(3,.one (.pt 0 0)),(5,.one (.pt 1 0)),(9,.one (tv (.int .i64 ((i:Nat):Int))))]) (fun i=>[(⟨28,0,[tv (.bool c.s),.t (sU false c.x),tv (.bool c.t),.t (sU false c.y),tv (.int .i64 bk),tv (.int .i64 fw)]⟩:Ob),⟨35,0,[.t (fV rs),.t (jL us)]⟩].map some) (fun i=>i≤us.length∧∀x,x<i→nO (bK us x)=true) (fun i=>us.length-i) 0 ⟨Nat.zero_le _,f0⟩ (aG h0 [0,1] _ _ (by decide) ⟨rfl,rfl,rfl,rfl,trivial⟩ ⟨oe rfl rfl,oe rfl rfl,rfl⟩) fun i hi=>?_
  refine sq ?_;refine sq ?_;refine rl ?_;refine o1 ?_;refine o1 ?_;refine ld ?_;refine o1 ?_;refine o1 ?_;refine nl ?_;refine bS rfl (fun h12=>?_) (fun h12=>?_)
  ·refine sk ?_;refine sq ?_;refine bl ?_
   refine md (γ:=Unit) (fun _=>bV [(1,.one (.t (fQ ys))),(3,.one (.pt 0 0)),(5,.one (.pt 1 0)),(9,.one (tv (.int .i64 ((i:Nat):Int)))),(108,.one (tv (.bool (!nO (bK us (i))))))]) (fun _=>([⟨28,0,[tv (.bool c.s),.t (sU false c.x),tv (.bool c.t),.t (sU false c.y),tv (.int .i64 bk),tv (.int .i64 fw)]⟩,⟨35,0,[.t (fV rs),.t (jL us)]⟩]:List Ob).map some) (fun _=>True) ?_ fun _ _=>?_
   ·refine rl ?_;refine o1 ?_;refine ld ?_;(iterate 3 refine o1 ?_)
    refine cR ((bK us (i)).n.tr false) (aQ (f:=(fA false)) (z:=14) (o:=2) (eM false) (dG (us:=us) (k:=i) (by omega)) (Nat.le_of_ble_eq_true rfl) rfl) ?_
    refine ca (iF (a:=(bK us (i)).n)) oI ⟨aB rfl,rfl⟩ (.one (tv (.bool (cB (bK us (i)).n)))) ?_;refine WL.splitb (t:=87) rfl (fun h13=>?_) (fun h13=>?_)
    ·(iterate 3 refine o1 ?_);refine ld ?_;(iterate 3 refine o1 ?_)
     refine cR ((bK us (i)).p.tr false) (aQ (f:=(fA false)) (z:=14) (o:=6) (eM false) (dG (us:=us) (k:=i) (by omega)) (Nat.le_of_ble_eq_true rfl) rfl) ?_
     refine ca (iF (a:=(bK us (i)).p)) oI ⟨aB rfl,rfl⟩ (.one (tv (.bool (cB (bK us (i)).p)))) ?_;refine WL.splitb (t:=96) rfl (fun h14=>?_) (fun h14=>?_)
     ·(iterate 4 refine o1 ?_);refine ld ?_;(iterate 3 refine o1 ?_)
      refine cR ((bK us (i)).q.tr false) (aQ (f:=(fA false)) (z:=14) (o:=10) (eM false) (dG (us:=us) (k:=i) (by omega)) (Nat.le_of_ble_eq_true rfl) rfl) ?_
      refine ca (iF (a:=(bK us (i)).q)) oI ⟨aB rfl,rfl⟩ (.one (tv (.bool (cB (bK us (i)).q)))) ?_;refine WL.splitb (t:=106) rfl (fun h15=>?_) (fun h15=>?_)
      ·refine o1 ?_;refine o1 ?_;refine nl ?_
       exact⟨(),trivial,aG h0 [0,1] _ _ (by decide) ⟨rfl,rfl,rfl,rfl,eD (by simp only[nO,h1,decide_eq_false h2,decide_eq_false h3,decide_eq_false h4,decide_eq_true h12,h13,h14,h15] <;> first | rfl | simp),trivial⟩ ⟨oe rfl rfl,oe rfl rfl,rfl⟩⟩
      refine o1 ?_;refine o1 ?_;refine nl ?_
      exact⟨(),trivial,aG h0 [0,1] _ _ (by decide) ⟨rfl,rfl,rfl,rfl,eD (by simp only[nO,h1,decide_eq_false h2,decide_eq_false h3,decide_eq_false h4,decide_eq_true h12,h13,h14,h15] <;> first | rfl | simp),trivial⟩ ⟨oe rfl rfl,oe rfl rfl,rfl⟩⟩
     (iterate 3 refine o1 ?_);(iterate 8 refine aX ?_);refine o1 ?_;refine nl ?_
     exact⟨(),trivial,aG h0 [0,1] _ _ (by decide) ⟨rfl,rfl,rfl,rfl,eD (by simp only[nO,h1,decide_eq_false h2,decide_eq_false h3,decide_eq_false h4,decide_eq_true h12,h13,h14] <;> first | rfl | simp),trivial⟩ ⟨oe rfl rfl,oe rfl rfl,rfl⟩⟩
    refine o1 ?_;refine o1 ?_;(iterate 8 refine aX ?_);refine o1 ?_;refine o1 ?_;(iterate 8 refine aX ?_);refine o1 ?_;refine nl ?_
    exact⟨(),trivial,aG h0 [0,1] _ _ (by decide) ⟨rfl,rfl,rfl,rfl,eD (by simp only[nO,h1,decide_eq_false h2,decide_eq_false h3,decide_eq_false h4,decide_eq_true h12,h13] <;> first | rfl | simp),trivial⟩ ⟨oe rfl rfl,oe rfl rfl,rfl⟩⟩
   refine kJ rfl (fun h16=>?_) (fun h16=>?_)
   ·refine sq ?_;refine rl ?_;refine ca (qG) On rfl (.one (tv (.bool true))) ?_;refine o1 ?_;refine nl ?_;refine rt ?_;exact dY (.inl rfl) rfl (rfl)
   refine sk ?_;refine rl ?_;refine o1 ?_;refine o1 ?_;refine WL.cast (t:=80) (u':=.int .i64 ((i+1:Nat):Int)) rfl (aI (by omega)) ?_
   refine o1 ?_;refine nl ?_
   exact⟨i+1,by omega,⟨by omega,jQ (f:=fun x=>nO (bK us x)) hi.2 (Ka h16)⟩,aG h0 [0,1] _ _ (by decide) ⟨rfl,rfl,rfl,rfl,trivial⟩ ⟨oe rfl rfl,oe rfl rfl,rfl⟩⟩
  refine ex ?_;refine sq ?_;have hs:=EX h1 hc hy
  have hJ:=LU hr hu (by omega) (by omega) hk.2 (by omega) hi.2 (by omega)
  refine rd [0,1] (fun i=>[15].contains i) mixed ?_
  refine aJ 0 ?_;refine dv 1 ?_;refine aJ 2 ?_;refine aJ 4 ?_;refine dv 6 ?_;refine aJ 8 ?_
  refine aF 3 rfl (FQ (bk:=bk) (fw:=fw) hs hJ) UC ⟨aB rfl,a1 rfl,aB rfl,rfl⟩ (.one (tv (.int .i64 (pB c bk fw ys rs us)))) ?_
  refine aF 5 rfl (QJ (bk:=bk) (fw:=fw) (Rz hs.c)) UD ⟨aB rfl,rfl⟩ (.agg ((c.tr false++[.v (.int .i64 bk),.v (.int .i64 fw)]:List Tr).map .t)) ?_
  refine aF 7 rfl (Ry (fun y hy=>⟨Rz (hs.y y hy).1,Rz (hs.y y hy).2⟩) (by have:=hs.l;omega)) UE ⟨a1 rfl,rfl⟩ (.one (.t (iN ys))) ?_
  refine aF 9 rfl (FW hJ) UF ⟨aB rfl,rfl⟩ (.agg (([jO false rs,jP false us]:List Tr).map .t)) ?_
  refine aF 10 rfl (FS (bk:=bk) (fw:=fw) hs hJ) UG ⟨aB rfl,a1 rfl,aB rfl,rfl⟩ (.one (tv (.int .i64 (pB c bk fw ys rs us)))) ?_;refine df 11 ?_;refine df 12 ?_
  refine WD.split (t:=122) rfl rfl (fun h17=>?_) (fun h17=>?_)
  ·refine aF 13 rfl (qG) On rfl (.one (tv (.bool true))) ?_;refine df 14 ?_;refine cN 15 (by kernel_rfl) rfl rfl aA rfl (by trivial) ?_ (fun h=>by first | rfl | cases h)
   refine aK ?_;refine rt ?_;exact dY (.inl rfl) rfl (rfl)
  exact absurd rfl h17
 refine o1 ?_;refine o1 ?_;(iterate 4 refine aX ?_);refine o1 ?_;refine o1 ?_;(iterate 4 refine aX ?_);refine o1 ?_;refine nl ?_;refine fY rfl ?_;refine sq ?_;refine rl ?_
 refine ca (qG) On rfl (.one (tv (.bool true))) ?_;refine o1 ?_;refine nl ?_;refine rt ?_;exact dY (.inl rfl) rfl (rfl)
end Go.Proofs.YthoemjjmkgmnjaaGreat
namespace Go.Proofs.YthoemjjmkgmnjaaGreat
open Go Go.RowKit Go.ChangeShapes
def Reads (P:Program) (t:TypeId) (z:Nat) (T:List Tr→Prop):Prop:=
 P.cellsOf t=z∧∀(H:Type) (enc:TypeId×Value→H) (w:World) (fuel:Nat) (cs:List Value) (x:DataW H×List MemPlace),DataW.trod enc P w 0 (fun _=>true) true fuel t cs=some x→∃l,T l∧l.length=z∧FRL w (Af w) l cs
theorem Oo {W:World}{N:Nat→Prop}:∀{l l':List Tr}{us us':List Value},FRL W N l us→FRL W N l' us'→FRL W N (l++l') (us++us')
 | [],l',us,us',h,h'=>by simp only[FRL]at h;subst h;exact h'
 | x::l,l',u::us,us',h,h'=>by simp only[FRL,List.cons_append]at*;exact⟨h.1,Oo h.2 h'⟩
 | _::_,_,[],_,h,_=>by simp only[FRL]at h
theorem Oq {W:World}{N:Nat→Prop}:∀{l:List Tr}{us:List Value}{j:Nat}{x:Tr},FRL W N l us→l[j]? =some x→∃u,us[j]? =some u∧FR W N x u
 | [],_,_,_,_,h=>by simp at h
 | y::l,u::us,0,x,h,e=>by
  simp only[FRL]at h
  simp at e
  subst e
  exact⟨u,rfl,h.1⟩
 | y::l,u::us,j+1,x,h,e=>by
  simp only[FRL]at h
  exact Oq (j:=j) h.2 (by simpa using e)
 | _::_,[],_,_,h,_=>by simp only[FRL]at h
section
variable {P:Program}{t e:TypeId}{k:IntKind}{z:Nat}{T T':List Tr→Prop}
theorem Reads.mono (h:Reads P t z T) (hi:∀l,T l→T' l):Reads P t z T':=⟨h.1,fun H enc w fuel cs x hx=>let ⟨l,a,b⟩:=h.2 H enc w fuel cs x hx;⟨l,hi l a,b⟩⟩
theorem FX (ht:P.underlying t=some .bool) (hz:P.cellsOf t=1):Reads P t 1 (fun l=>∃b,l=[.v (.bool b)]):=⟨hz,fun H enc w fuel cs x hx=>by
 obtain⟨b,rfl,_⟩:=DataW.trod_bool ht hx
 exact⟨_,⟨b,rfl⟩,rfl,by simp[FRL,FR]⟩⟩
theorem xR (ht:P.underlying t=some (.int k)) (hz:P.cellsOf t=1):Reads P t 1 (fun l=>∃n,l=[.v (.int k n)]∧k.min≤n∧n≤k.max):=⟨hz,fun H enc w fuel cs x hx=>by
 obtain⟨n,rfl,_,h⟩:=DataW.trod_int ht hx
 simp only[Lit.wf,Bool.and_eq_true,decide_eq_true_eq]at h
 exact⟨_,⟨n,rfl,h⟩,rfl,by simp[FRL,FR]⟩⟩
inductive Flds (P:Program):Nat→List Field→Nat→(List Tr→Prop)→Prop
 | nil {o:Nat}:Flds P o [] 0 (· =[])
 | cons {o z z':Nat}{f:Field}{fs:List Field}{T T':List Tr→Prop}(ho:f.offset=o) (h:Reads P f.type z T) (h':Flds P (o+z) fs z' T'):Flds P o (f::fs) (z+z') (fun l=>∃a b,l=a++b∧T a∧T' b)
theorem Flds.read {H:Type}{enc:TypeId×Value→H}{w:World}{n o:Nat}{fs:List Field}(h:Flds P o fs z T):∀{cs:List Value},o+z≤cs.length→(∀f∈fs,∃x,DataW.trod enc P w 0 (fun _=>true) true n f.type ((cs.drop f.offset).take (P.cellsOf f.type))=some x)→∃l,T l∧l.length=z∧FRL w (Af w) l ((cs.drop o).take z):=by
 induction h with
 | nil=>exact fun _ _=>⟨[],rfl,rfl,by simp[FRL]⟩
 | @cons o z z' f fs T T' ho hr _ ih=>
  intro cs hl hf
  obtain⟨b,h1,h2,h3⟩:=ih (cs:=cs) (by omega) fun f hm=>hf f (List.mem_cons_of_mem _ hm)
  obtain⟨x,hx⟩:=hf f List.mem_cons_self
  obtain⟨a,g1,g2,g3⟩:=hr.2 H enc w n _ x hx
  rw[ho,hr.1]at g3
  refine⟨a++b,⟨a,b,rfl,g1,h1⟩,by simp[g2,h2],?_⟩
  rw[List.take_add,List.drop_drop]
  exact Oo g3 h3
theorem lM {fs:List Field}{z':Nat}(ht:P.underlying t=some (.struct fs.toArray)) (hz:P.cellsOf t=z) (h:Flds P 0 fs z' T) (e:z'=z:=by rfl):Reads P t z T:=⟨hz,fun H enc w fuel cs x hx=>by
 subst e
 obtain⟨xs,n,_,rfl,hl,hlen,hf⟩:=DataW.trod_struct ht hx
 rw[hz]at hl
 obtain⟨l,h1,h2,h3⟩:=h.read (H:=H) (enc:=enc) (w:=w) (n:=n) (cs:=cs) (by omega) fun f hm=>by
  obtain⟨i,hi⟩:=List.mem_iff_getElem?.1 hm
  have h1:=hf i f (by simpa using hi)
  have h2:i<xs.length:=by
   have:=(List.getElem?_eq_some_iff.1 hi).1
   simp at hlen
   omega
  rw[List.getElem?_eq_getElem h2]at h1
  exact⟨_,h1⟩
 refine⟨l,h1,h2,?_⟩
 rw[List.drop_zero,List.take_of_length_le (by omega)]at h3
 exact h3⟩
theorem vN (ht:P.underlying t=some (.slice e)) (hz:P.cellsOf t=1) (hz0:0<z) (h:Reads P e z T):Reads P t 1 (fun l=>∃rows:List (List Tr),(∀r∈rows,T r∧r.length=z)∧l=[.s false e z rows.length rows.flatten]):=⟨hz,fun H enc w fuel cs x hx=>by
 have hlen:∀(rows:List (List Tr)),(∀r∈rows,T r∧r.length=z)→rows.flatten.length=rows.length*z:=by
  intro rows
  induction rows with
  | nil=>intro _;simp
  | cons r rows ih=>
   intro hr
   rw[List.flatten_cons,List.length_append,(hr r List.mem_cons_self).2,ih fun r hm=>hr r (List.mem_cons_of_mem _ hm),List.length_cons,Nat.succ_mul,Nat.add_comm]
 rcases Deep.open_slice ht hx with⟨rfl,_⟩ | ⟨a,len,cap,m,n,D,Pl,rfl,_,hl,hm,hmm,_,hel⟩
 ·refine⟨_,⟨[],fun _ h=>(by cases h),rfl⟩,rfl,?_⟩
  simp only[FRL,FR,and_true]
  exact⟨none,0,rfl,Nat.le_refl _,by omega,by simp,.inl rfl⟩
 have hmc:m=cap:=by simpa using hmm
 rw[h.1]at hel
 have hex:∀i:Nat,∃l:List Tr,i<len→T l∧l.length=z∧∀j y,l[j]? =some y→∃u,w.cell? ((a.add (i*z)).add j)=some u∧FR w (Af w) y u:=fun i=>by
  by_cases hi:i<len
  ·obtain⟨cs',h1,h2⟩:=hel i (by omega)
   obtain⟨l,g1,g2,g3⟩:=h.2 H enc w n cs' _ h2
   obtain⟨_,h3,h4⟩:=World.cells?_some h1
   refine⟨l,fun _=>⟨g1,g2,fun j y hj=>?_⟩⟩
   obtain⟨u,hu,hy⟩:=Oq g3 hj
   have hjl:=(List.getElem?_eq_some_iff.1 hj).1
   exact⟨u,by rw[h4 j (by omega),hu],hy⟩
  exact⟨[],fun h=>absurd h hi⟩
 have hF:=fun i=>Classical.choose_spec (hex i)
 have hrow:∀r∈(List.range len).map (fun i=>Classical.choose (hex i)),T r∧r.length=z:=fun r hr=>by
  obtain⟨i,hi,rfl⟩:=List.mem_map.1 hr
  have:=hF i (List.mem_range.1 hi)
  exact⟨this.1,this.2.1⟩
 refine⟨_,⟨_,hrow,rfl⟩,rfl,?_⟩
 have h5:=hlen _ hrow
 simp only[FRL,and_true,FR]
 refine⟨some a,cap,by simp,by simpa using hl,by unfold maxLen at hm;omega,h5,?_⟩
 rcases Nat.eq_zero_or_pos len with h0 | h0
 ·exact .inl (by simp[h0])
 refine .inr ⟨a,rfl,?_,xS fun j y hj=>?_⟩
 ·obtain⟨_,g2,g3⟩:=hF 0 h0
  obtain⟨u,hu,_⟩:=g3 0 _ (List.getElem?_eq_getElem (by omega))
  have:=World.block_lt_of_cell? w ((a.add (0*z)).add 0) hu
  rwa[jA,jA]at this
 have hjl:=(List.getElem?_eq_some_iff.1 hj).1
 rw[h5,List.length_map,List.length_range]at hjl
 have hi:j/z<len:=Nat.div_lt_of_lt_mul (by rw[Nat.mul_comm];exact hjl)
 obtain⟨_,g2,g3⟩:=hF (j/z) hi
 have hz1:=Nat.mod_lt j hz0
 have hget:∀(rows:List (List Tr)),(∀r∈rows,T r∧r.length=z)→∀(i o:Nat) (r:List Tr),rows[i]? =some r→o<z→rows.flatten[i*z+o]? =r[o]? :=by
  intro rows
  induction rows with
  | nil=>intro _ i o r h;simp at h
  | cons r rows ih=>
   intro hr i o r' hi ho
   have hrl:=(hr r List.mem_cons_self).2
   cases i with
   | zero=>
    simp at hi
    subst hi
    rw[Nat.zero_mul,Nat.zero_add,List.flatten_cons,List.getElem?_append_left (by omega)]
   | succ i=>
    rw[List.flatten_cons,List.getElem?_append_right (by rw[Nat.succ_mul];omega),hrl,show(i+1)*z+o-z=i*z+o by rw[Nat.succ_mul];omega]
    exact ih (fun r hm=>hr r (List.mem_cons_of_mem _ hm)) i o r' (by simpa using hi) ho
 have hd:=Nat.div_add_mod j z
 rw[Nat.mul_comm]at hd
 rw[←hd,hget _ hrow (j/z) (j%z) (Classical.choose (hex (j/z))) (by simp[hi]) hz1]at hj
 obtain⟨u,hu,hy⟩:=g3 _ _ hj
 refine⟨u,?_,hy⟩
 rw[Nat.zero_add]
 have e2:(a.add (j/z*z)).add (j%z)=a.add j:=by rw[yN,hd]
 rwa[e2]at hu⟩
theorem tX {α:Type}(f:α→List Tr) (Q:α→Prop):∀{rows:List (List Tr)},(∀r∈rows,∃a,Q a∧r=f a)→∃xs:List α,(∀a∈xs,Q a)∧rows.flatten=xs.flatMap f∧rows.length=xs.length
 | [],_=>⟨[],fun _ h=>(by cases h),rfl,rfl⟩
 | r::rows,h=>by
  obtain⟨a,h1,rfl⟩:=h r List.mem_cons_self
  obtain⟨xs,h2,h3,h4⟩:=tX f Q fun r hm=>h r (List.mem_cons_of_mem _ hm)
  exact⟨a::xs,fun b hb=>(List.mem_cons.1 hb).elim (fun e=>e▸h1) (h2 b),by simp[h3],by simp[h4]⟩
theorem Zt (ht:P.underlying t=some (.slice e)) (he:P.underlying e=some (.int .u32)) (hz:P.cellsOf t=1) (hze:P.cellsOf e=1) (hn:e=109):Reads P t 1 (fun l=>∃xs:List Nat,Lim 4294967296 xs∧l=[sU false xs]):=
 (vN ht hz (by omega) (xR he hze)).mono fun l ⟨rows,h1,h2⟩=>by
  obtain⟨xs,h3,h4,h5⟩:=tX (fun n:Nat=>[Tr.v (.int .u32 (n:Int))]) (fun n=>n<4294967296) (rows:=rows) fun r hr=>by
   obtain⟨⟨n,rfl,h1,h2⟩,_⟩:=h1 r hr
   have e1:IntKind.u32.min=0:=rfl
   have e2:IntKind.u32.max=4294967295:=rfl
   rw[e1]at h1
   rw[e2]at h2
   exact⟨n.toNat,by omega,by rw[Int.toNat_of_nonneg h1]⟩
  refine⟨xs,h3,?_⟩
  rw[h2,h4,h5,sU,hn]
  have:∀xs:List Nat,xs.flatMap (fun n:Nat=>[Tr.v (.int .u32 (n:Int))])=aV xs:=by
   intro xs
   induction xs with
   | nil=>rfl
   | cons n xs ih=>rw[List.flatMap_cons,ih];rfl
  rw[this]
theorem FY (hb:Reads P t z (fun l=>∃a b,l=a++b∧(∃s,a=[.v (.bool s)])∧∃b' c',b=b'++c'∧(∃xs:List Nat,Lim 4294967296 xs∧b'=[sU false xs])∧c'=[])):Reads P t z (fun l=>∃(s:Bool) (xs:List Nat),Lim 4294967296 xs∧l=[.v (.bool s),sU false xs]):=
 hb.mono fun l ⟨a,b,h1,⟨s,h2⟩,b',c',h3,⟨xs,h4,h5⟩,h6⟩=>⟨s,xs,h4,by rw[h1,h2,h3,h5,h6];rfl⟩
end
def LimF (a:Fr4):Prop:=Lim 4294967296 a.x∧Lim 4294967296 a.y
end Go.Proofs.YthoemjjmkgmnjaaGreat
namespace Go.Proofs.YthoemjjmkgmnjaaGreat
open Go Go.ChangeShapes Go.WideShapes Go.ChangeAt Go.RowKit
theorem LV:Tryz.prog.cellsOf 24=2:=by kernel_rfl
theorem FZ:Tryz.prog.cellsOf 4=1:=by kernel_rfl
theorem Dd:Tryz.prog.cellsOf 3=1:=by kernel_rfl
theorem LW:Tryz.prog.cellsOf 109=1:=by kernel_rfl
theorem Zu:Tryz.prog.cellsOf 22=1:=by kernel_rfl
theorem LX:Tryz.prog.cellsOf 26=4:=by kernel_rfl
theorem Vk:Reads Tryz.prog 24 2 (fun l=>∃(s:Bool) (xs:List Nat),Lim 4294967296 xs∧l=[.v (.bool s),sU false xs]):=by
 have h1:=FX Tryz.underlying4 FZ
 have h2:=Zt Tryz.underlying22 Tryz.underlying109 Zu LW rfl
 have h3:=lM Tryz.underlying24 LV (.cons rfl h1 (.cons rfl h2 .nil))
 exact FY h3
theorem kQ:Reads Tryz.prog 26 4 (fun l=>∃a:Fr4,LimF a∧l=a.tr false):=
 (lM Tryz.underlying26 LX (.cons rfl Vk (.cons rfl Vk .nil))).mono fun l ⟨a,b,h1,⟨s,xs,h2,h3⟩,b',c',h4,⟨t,ys,h5,h6⟩,h7⟩=>⟨⟨s,xs,t,ys⟩,⟨h2,h5⟩,by rw[h1,h3,h4,h6,h7];rfl⟩
theorem Ot {W:World}{N:Nat→Prop}:∀{l:List Tr}{us:List Value},FRL W N l us→ARL W N [] (l.map .t) us
 | [],us,h=>by simpa[FRL,ARL]using h
 | x::l,u::us,h=>by
  simp only[FRL]at h
  simp only[List.map_cons,ARL,AR]
  exact⟨h.1,Ot h.2⟩
 | _::_,[],h=>by simp only[FRL]at h
theorem Tk {W:World}{l:List Tr}{cs:Array Value}(h:FRL W (Af W) l (Value.agg cs).cells.toList):cA W (Af W) [] (.agg (l.map .t)) (.agg cs):=⟨cs.toList,by simp,Ot (by simpa[Value.cells]using h)⟩
theorem IF {W:World}{y:Tr}{u:Value}(hu:u.cells.toList=[u]) (h:FRL W (Af W) [y] u.cells.toList):cA W (Af W) [] (.one (.t y)) u:=by
 rw[hu]at h
 simp only[FRL,and_true]at h
 simpa only[cA,AR]using h
theorem LimF.sh {a:Fr4}(h:LimF a):eV a:=fun h2=>by
 simp only[cB,Bool.and_eq_true,decide_eq_true_eq]at h2
 exact⟨h.1,h.2,by omega,by omega⟩
theorem QK:Tryz.prog.cellsOf 70=8:=by kernel_rfl
theorem Zw:Tryz.prog.cellsOf 28=6:=by kernel_rfl
theorem LY:Tryz.prog.cellsOf 29=1:=by kernel_rfl
theorem QL:Reads Tryz.prog 70 8 (fun l=>∃y:Fr4×Fr4,(LimF y.1∧LimF y.2)∧l=bY y):=
 (lM Tryz.underlying70 QK (.cons rfl kQ (.cons rfl kQ .nil))).mono
  fun l ⟨a,b,h1,⟨p,h2,h3⟩,b',c',h4,⟨q,h5,h6⟩,h7⟩=>⟨(p,q),⟨h2,h5⟩,by rw[h1,h3,h4,h6,h7];rfl⟩
theorem IE:Reads Tryz.prog 29 1 (fun l=>∃xs:List (Fr4×Fr4),(∀x∈xs,LimF x.1∧LimF x.2)∧l=[fQ xs]):=
 (vN Tryz.underlying29 LY (by omega) QL).mono fun l ⟨rows,h1,h2⟩=>by
  obtain⟨xs,h3,h4,h5⟩:=tX bY (fun y:Fr4×Fr4=>LimF y.1∧LimF y.2) (rows:=rows) fun r hr=>(h1 r hr).1
  exact⟨xs,h3,by rw[h2,h4,h5];rfl⟩
theorem Xq:Reads Tryz.prog 28 6 (fun l=>∃(c:Fr4) (bk fw:Int),LimF c∧l=c.tr false++[.v (.int .i64 bk),.v (.int .i64 fw)]):=
 (lM Tryz.underlying28 Zw (.cons rfl kQ (.cons rfl (xR Tryz.underlying3 Dd) (.cons rfl (xR Tryz.underlying3 Dd) .nil)))).mono
  fun l ⟨a,b,h1,⟨c,h2,h3⟩,b',c',h4,⟨m,h5,_⟩,d,e,h6,⟨n,h7,_⟩,h8⟩=>⟨c,m,n,h2,by rw[h1,h3,h4,h5,h6,h7,h8];rfl⟩
theorem LZ:Tryz.prog.cellsOf 66=24:=by kernel_rfl
theorem MA:Tryz.prog.cellsOf 46=14:=by kernel_rfl
theorem GA:Tryz.prog.cellsOf 32=1:=by kernel_rfl
theorem GB:Tryz.prog.cellsOf 33=1:=by kernel_rfl
theorem MB:Tryz.prog.cellsOf 35=2:=by kernel_rfl
def LimR6 (r:Rf):Prop:=LimF r.l∧LimF r.m∧LimF r.u∧LimF r.t∧LimF r.e∧LimF r.c
def LimU3 (u:Uf):Prop:=LimF u.n∧LimF u.p∧LimF u.q
theorem MC:Reads Tryz.prog 66 24 (fun l=>∃r:Rf,LimR6 r∧l=iC false r):=
 (lM Tryz.underlying66 LZ (.cons rfl kQ (.cons rfl kQ (.cons rfl kQ (.cons rfl kQ (.cons rfl kQ (.cons rfl kQ .nil))))))).mono
  fun l ⟨a1,b1,e1,⟨p1,q1,r1⟩,a2,b2,e2,⟨p2,q2,r2⟩,a3,b3,e3,⟨p3,q3,r3⟩,a4,b4,e4,⟨p4,q4,r4⟩,a5,b5,e5,⟨p5,q5,r5⟩,a6,b6,e6,⟨p6,q6,r6⟩,e7⟩=>⟨⟨p1,p2,p3,p4,p5,p6⟩,⟨q1,q2,q3,q4,q5,q6⟩,by rw[e1,r1,e2,r2,e3,r3,e4,r4,e5,r5,e6,r6,e7];rfl⟩
theorem MD:Reads Tryz.prog 46 14 (fun l=>∃u:Uf,LimU3 u∧l=fA false u):=
 (lM Tryz.underlying46 MA (.cons rfl (xR Tryz.underlying3 Dd) (.cons rfl (xR Tryz.underlying3 Dd) (.cons rfl kQ (.cons rfl kQ (.cons rfl kQ .nil)))))).mono
  fun l ⟨a1,b1,e1,⟨v,r1,_⟩,a2,b2,e2,⟨y,r2,_⟩,a3,b3,e3,⟨p3,q3,r3⟩,a4,b4,e4,⟨p4,q4,r4⟩,a5,b5,e5,⟨p5,q5,r5⟩,e7⟩=>⟨⟨v,y,p3,p4,p5⟩,⟨q3,q4,q5⟩,by rw[e1,r1,e2,r2,e3,r3,e4,r4,e5,r5,e7];rfl⟩
theorem GC:Reads Tryz.prog 32 1 (fun l=>∃xs:List Rf,(∀x∈xs,LimR6 x)∧l=[fV xs]):=
 (vN Tryz.underlying32 GA (by omega) MC).mono fun l ⟨rows,h1,h2⟩=>by
  obtain⟨xs,h3,h4,h5⟩:=tX (iC false) LimR6 (rows:=rows) fun r hr=>(h1 r hr).1
  exact⟨xs,h3,by rw[h2,h4,h5];rfl⟩
theorem GD:Reads Tryz.prog 33 1 (fun l=>∃xs:List Uf,(∀x∈xs,LimU3 x)∧l=[jL xs]):=
 (vN Tryz.underlying33 GB (by omega) MD).mono fun l ⟨rows,h1,h2⟩=>by
  obtain⟨xs,h3,h4,h5⟩:=tX (fA false) LimU3 (rows:=rows) fun r hr=>(h1 r hr).1
  exact⟨xs,h3,by rw[h2,h4,h5];rfl⟩
theorem EF:Reads Tryz.prog 35 2 (fun l=>∃(rs:List Rf) (us:List Uf),(∀x∈rs,LimR6 x)∧(∀x∈us,LimU3 x)∧l=[fV rs,jL us]):=
 (lM Tryz.underlying35 MB (.cons rfl GC (.cons rfl GD .nil))).mono
  fun l ⟨a1,b1,e1,⟨rs,q1,r1⟩,a2,b2,e2,⟨us,q2,r2⟩,e7⟩=>⟨rs,us,q1,q2,by rw[e1,r1,e2,r2,e7];rfl⟩
theorem LimR6.sh {r:Rf}(h:LimR6 r):eV r.l∧eV r.m∧eV r.u∧eV r.t∧eV r.e∧eV r.c:=⟨h.1.sh,h.2.1.sh,h.2.2.1.sh,h.2.2.2.1.sh,h.2.2.2.2.1.sh,h.2.2.2.2.2.sh⟩
theorem LimU3.sh {u:Uf}(h:LimU3 u):eV u.n∧eV u.p∧eV u.q:=⟨h.1.sh,h.2.1.sh,h.2.2.sh⟩
end Go.Proofs.YthoemjjmkgmnjaaGreat
