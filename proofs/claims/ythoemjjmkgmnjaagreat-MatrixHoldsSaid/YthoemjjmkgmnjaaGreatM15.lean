/- Part 15 of a proof: D2 to F4. -/
import Derived.Test.YthoemjjmkgmnjaaGreatM14
import Derived.Test.YthoemjjmkgmnjaaGreatM9
import Derived.Test.YthoemjjmkgmnjaaGreatM13
import Derived.Test.YthoemjjmkgmnjaaGreatM7
import Derived.Test.YthoemjjmkgmnjaaGreatM11
set_option maxRecDepth 100000
set_option linter.unusedVariables false
set_option linter.unusedSimpArgs false
namespace Go.Proofs.YthoemjjmkgmnjaaGreat
open Go Go.RowKit
def Ea:Rat:=Rat.divInt 3 5
def jU:List (Rat×Rat):=[((Rat.divInt (100) 1),(Rat.divInt (0) 1)),((Rat.divInt (-50) 1),(Rat.divInt (0) 1)),((Rat.divInt (100) 1),(Rat.divInt (0) 1))]
def gK:List Us:=[⟨1,0,50,100,50⟩]
def iY:List (Rat×Rat):=[((Rat.divInt (100) 1),(Rat.divInt (0) 1)),((Rat.divInt (-80) 1),(Rat.divInt (0) 1)),((Rat.divInt (30) 1),(Rat.divInt (0) 1)),((Rat.divInt (100) 1),(Rat.divInt (0) 1))]
def fK:List Us:=[⟨1,0,60,100,40⟩,⟨1,2,18,30,12⟩,⟨1,3,2,100,98⟩]
def gT:List (Rat×Rat):=[((Rat.divInt (-10) 1),(Rat.divInt (0) 1)),((Rat.divInt (0) 1),(Rat.divInt (0) 1)),((Rat.divInt (0) 1),(Rat.divInt (0) 1)),((Rat.divInt (100) 1),(Rat.divInt (0) 1))]
def iK:List Us:=[]
def dJ (l:List (Rat×Rat)):List Rw:=Bz (Fr4.of Ea) ((1:Nat):Int) ((2:Nat):Int) (gX l)
theorem Tu {l:List (Rat×Rat)}{U:List Us}(hm:Kt Ea 1 2 l=true) (hs:∀p∈l,Sz 4 p.1∧Sz 4 p.2) (hl:l.length<50) (hU:(Dp Ea 1 2 l).run l.length=U):aE false Tryz.prog 10 [] [.agg (((Fr4.of Ea).tr false++[.v (.int .i64 1),.v (.int .i64 2)]:List Tr).map .t),.one (.t (fM (gX l)))] (aN (.tup [.agg [.t (dI true true (dJ l)),.t (cN true true U)],.one (tv (.int .i64 0))])):=by
 have h:=We (bk:=((1:Nat):Int)) (fw:=((2:Nat):Int)) (MS (c:=Ea) ((eV (n:=3) (d:=5) (by omega) (by omega) (by omega) (by omega)).mono (M:=4) (by omega)) hs hl)
 rw[Tc hm,MR hm,hU]at h
 exact h
theorem uQ:aE false Tryz.prog 10 [] [.agg (((Fr4.of Ea).tr false++[.v (.int .i64 1),.v (.int .i64 2)]:List Tr).map .t),.one (.t (fM (gX jU)))] (aN (.tup [.agg [.t (dI true true (dJ jU)),.t (cN true true gK)],.one (tv (.int .i64 0))])):=Tu (l:=jU) (U:=gK) (by decide+kernel) (by simp only[jU,List.forall_mem_cons];exact⟨⟨((eV (n:=100) (d:=1) (by omega) (by omega) (by omega) (by omega)).mono (M:=4) (by omega)),((eV (n:=0) (d:=1) (by omega) (by omega) (by omega) (by omega)).mono (M:=4) (by omega))⟩,⟨((eV (n:=-50) (d:=1) (by omega) (by omega) (by omega) (by omega)).mono (M:=4) (by omega)),((eV (n:=0) (d:=1) (by omega) (by omega) (by omega) (by omega)).mono (M:=4) (by omega))⟩,⟨((eV (n:=100) (d:=1) (by omega) (by omega) (by omega) (by omega)).mono (M:=4) (by omega)),((eV (n:=0) (d:=1) (by omega) (by omega) (by omega) (by omega)).mono (M:=4) (by omega))⟩,fun _ h=>by cases h⟩) (by decide) (by decide+kernel)
theorem rQ:aE false Tryz.prog 10 [] [.agg (((Fr4.of Ea).tr false++[.v (.int .i64 1),.v (.int .i64 2)]:List Tr).map .t),.one (.t (fM (gX iY)))] (aN (.tup [.agg [.t (dI true true (dJ iY)),.t (cN true true fK)],.one (tv (.int .i64 0))])):=Tu (l:=iY) (U:=fK) (by decide+kernel) (by simp only[iY,List.forall_mem_cons];exact⟨⟨((eV (n:=100) (d:=1) (by omega) (by omega) (by omega) (by omega)).mono (M:=4) (by omega)),((eV (n:=0) (d:=1) (by omega) (by omega) (by omega) (by omega)).mono (M:=4) (by omega))⟩,⟨((eV (n:=-80) (d:=1) (by omega) (by omega) (by omega) (by omega)).mono (M:=4) (by omega)),((eV (n:=0) (d:=1) (by omega) (by omega) (by omega) (by omega)).mono (M:=4) (by omega))⟩,⟨((eV (n:=30) (d:=1) (by omega) (by omega) (by omega) (by omega)).mono (M:=4) (by omega)),((eV (n:=0) (d:=1) (by omega) (by omega) (by omega) (by omega)).mono (M:=4) (by omega))⟩,⟨((eV (n:=100) (d:=1) (by omega) (by omega) (by omega) (by omega)).mono (M:=4) (by omega)),((eV (n:=0) (d:=1) (by omega) (by omega) (by omega) (by omega)).mono (M:=4) (by omega))⟩,fun _ h=>by cases h⟩) (by decide) (by decide+kernel)
theorem rR:aE false Tryz.prog 10 [] [.agg (((Fr4.of Ea).tr false++[.v (.int .i64 1),.v (.int .i64 2)]:List Tr).map .t),.one (.t (fM (gX gT)))] (aN (.tup [.agg [.t (dI true true (dJ gT)),.t (cN true true iK)],.one (tv (.int .i64 0))])):=Tu (l:=gT) (U:=iK) (by decide+kernel) (by simp only[gT,List.forall_mem_cons];exact⟨⟨((eV (n:=-10) (d:=1) (by omega) (by omega) (by omega) (by omega)).mono (M:=4) (by omega)),((eV (n:=0) (d:=1) (by omega) (by omega) (by omega) (by omega)).mono (M:=4) (by omega))⟩,⟨((eV (n:=0) (d:=1) (by omega) (by omega) (by omega) (by omega)).mono (M:=4) (by omega)),((eV (n:=0) (d:=1) (by omega) (by omega) (by omega) (by omega)).mono (M:=4) (by omega))⟩,⟨((eV (n:=0) (d:=1) (by omega) (by omega) (by omega) (by omega)).mono (M:=4) (by omega)),((eV (n:=0) (d:=1) (by omega) (by omega) (by omega) (by omega)).mono (M:=4) (by omega))⟩,⟨((eV (n:=100) (d:=1) (by omega) (by omega) (by omega) (by omega)).mono (M:=4) (by omega)),((eV (n:=0) (d:=1) (by omega) (by omega) (by omega) (by omega)).mono (M:=4) (by omega))⟩,fun _ h=>by cases h⟩) (by decide) (by decide+kernel)
theorem IM:(dJ gT).length=4:=by
 unfold dJ
 rw[Wh (by decide+kernel)]
 exact cZ
theorem SV:(aD (dJ gT) 0).e=Rat.divInt 10 1:=by
 unfold dJ
 rw[Wh (by decide+kernel),iE (by decide)]
 show(Dp Ea 1 2 gT).ex gT.length 0=_
 decide+kernel
theorem uR {p q:Rat}(hq:Sz 68719476736 q) (h:p=q):aE true Tryz.prog 34 [] [qF (.of p),qF (.of q)] (aN (.one (tv (.bool true)))):=by
 subst h
 have h9:=uO (Qn.of hq) (Qn.of hq)
 rwa[decide_eq_true rfl]at h9
theorem Fz:aE true Tryz.prog 9 [] [] (aN (.one (tv (.bool true)))):=by
 refine bC Tryz.func9 rfl Tryz.ntmps9 rfl aA rfl fun N w c0 h0=>?_
 have hu1:gK.length=1:=rfl
 have hu2:fK.length=3:=rfl
 have hu3:iK.length=0:=rfl
 have hr3:=IM
 refine sq ?_;refine rl ?_;refine o1 ?_;refine nl ?_;refine sq ?_;refine rl ?_
 refine ca (yF (n:=3) (d:=5) (by omega) (by omega) (by omega) (by omega)) yG ⟨a1 rfl,a1 rfl,rfl⟩ (qF (.of (Rat.divInt 3 5))) ?_
 refine o1 ?_;refine al 0 ?_;refine st ?_;refine nl ?_
 refine md (γ:=Unit) (fun _=>bS [(1,.one (.pt 0 0)),(2,.one (.pt 1 0)),(3,.one (tv (.int .i64 ((0:Nat):Int))))]) (fun _=>([⟨28,0,((Fr4.of (Rat.divInt 3 5)).tr false++[.v (.int .i64 1),.v (.int .i64 2)]:List Tr).map .t⟩,⟨35,0,[.t (.s false 66 24 (dJ jU).length ((dJ jU).flatMap (cE true))),.t (.s false 46 14 gK.length (gK.flatMap (dQ true)))]⟩]:List Ob).map some) (fun _=>True) ?_ fun _ _=>?_
 ·refine rd [0] (fun i=>[11].contains i) mixed ?_
  refine aI 0 ?_;refine WO.two (i:=1) (j:=9) (by kernel_rfl) ?_ ?_
  ·refine cX 1 rfl (dB (n:=100) (m:=0) (by omega) (by omega) (by omega) (by omega)) eU ⟨a1 rfl,a1 rfl,rfl⟩ (.agg ((bV (Fr4.of (Rat.divInt (100) 1),Fr4.of (Rat.divInt (0) 1))).map .t)) ?_
   refine WO.two (i:=2) (j:=9) (by kernel_rfl) ?_ ?_
   ·refine cX 2 rfl (dB (n:=-50) (m:=0) (by omega) (by omega) (by omega) (by omega)) eU ⟨a1 rfl,a1 rfl,rfl⟩ (.agg ((bV (Fr4.of (Rat.divInt (-50) 1),Fr4.of (Rat.divInt (0) 1))).map .t)) ?_
    refine WO.two (i:=3) (j:=9) (by kernel_rfl) ?_ ?_
    ·refine cX 3 rfl (dB (n:=100) (m:=0) (by omega) (by omega) (by omega) (by omega)) eU ⟨a1 rfl,a1 rfl,rfl⟩ (.agg ((bV (Fr4.of (Rat.divInt (100) 1),Fr4.of (Rat.divInt (0) 1))).map .t)) ?_
     refine WO.two (i:=4) (j:=9) (by kernel_rfl) ?_ ?_
     ·refine Fk (key:=1) 4 rfl rfl ⟨rfl,trivial⟩ ?_
      refine jG (i:=15) (k:=1) (t:=70) (t':=70) (z:=8) (n:=3) (l:=(gX jU).flatMap bV) rfl rfl rfl rfl (.one .sl) (by rfl) (by rfl) ?_
      refine WO.two (i:=5) (j:=9) (by kernel_rfl) ?_ ?_
      ·refine cX 5 rfl uQ jJ ⟨aB rfl,a1 rfl,rfl⟩ (.tup [.agg [.t (.s false 66 24 (dJ jU).length ((dJ jU).flatMap (cE true))),.t (.s false 46 14 gK.length (gK.flatMap (dQ true)))],.one (tv (.int .i64 0))]) ?_
       refine df 6 ?_;refine df 7 ?_;refine df 8 ?_;refine eN (key:=2) 9 (by kernel_rfl) rfl rfl aA rfl ⟨rfl,trivial⟩ ?_
       refine aX 10 (by kernel_rfl) rfl rfl aA rfl rfl rfl rfl ⟨rfl,trivial⟩ ?_
       refine cR 11 (by kernel_rfl) rfl rfl aA rfl (by trivial) ?_ (fun h=>by first | rfl | cases h)
       refine aJ ?_;exact⟨(),trivial,aG h0 [0,2] _ _ (by decide) ⟨rfl,rfl,rfl,trivial⟩ ⟨oe rfl rfl,oe rfl rfl,rfl⟩⟩
      refine bI (key:=2) 9 rfl rfl aA rfl ⟨rfl,trivial⟩ ?_
      refine aF 5 rfl uQ jJ ⟨aB rfl,a1 rfl,rfl⟩ (.tup [.agg [.t (.s false 66 24 (dJ jU).length ((dJ jU).flatMap (cE true))),.t (.s false 46 14 gK.length (gK.flatMap (dQ true)))],.one (tv (.int .i64 0))]) ?_
      refine df 6 ?_;refine df 7 ?_;refine df 8 ?_;refine aX 10 (by kernel_rfl) rfl rfl aA rfl rfl rfl rfl ⟨rfl,trivial⟩ ?_
      refine cR 11 (by kernel_rfl) rfl rfl aA rfl (by trivial) ?_ (fun h=>by first | rfl | cases h)
      refine aJ ?_;exact⟨(),trivial,aG h0 [0,2] _ _ (by decide) ⟨rfl,rfl,rfl,trivial⟩ ⟨oe rfl rfl,oe rfl rfl,rfl⟩⟩
     refine bI (key:=1) 9 rfl rfl aA rfl ⟨rfl,trivial⟩ ?_;refine eZ (key:=2) 4 (by kernel_rfl) rfl rfl aA rfl ⟨rfl,trivial⟩ ?_
     refine jG (i:=15) (k:=2) (t:=70) (t':=70) (z:=8) (n:=3) (l:=(gX jU).flatMap bV) rfl rfl rfl rfl (.one .sl) (by rfl) (by rfl) ?_
     refine aF 5 rfl uQ jJ ⟨aB rfl,a1 rfl,rfl⟩ (.tup [.agg [.t (.s false 66 24 (dJ jU).length ((dJ jU).flatMap (cE true))),.t (.s false 46 14 gK.length (gK.flatMap (dQ true)))],.one (tv (.int .i64 0))]) ?_
     refine df 6 ?_;refine df 7 ?_;refine df 8 ?_;refine aX 10 (by kernel_rfl) rfl rfl aA rfl rfl rfl rfl ⟨rfl,trivial⟩ ?_
     refine cR 11 (by kernel_rfl) rfl rfl aA rfl (by trivial) ?_ (fun h=>by first | rfl | cases h)
     refine aJ ?_;exact⟨(),trivial,aG h0 [0,1] _ _ (by decide) ⟨rfl,rfl,rfl,trivial⟩ ⟨oe rfl rfl,oe rfl rfl,rfl⟩⟩
    refine bI (key:=1) 9 rfl rfl aA rfl ⟨rfl,trivial⟩ ?_
    refine aF 3 rfl (dB (n:=100) (m:=0) (by omega) (by omega) (by omega) (by omega)) eU ⟨a1 rfl,a1 rfl,rfl⟩ (.agg ((bV (Fr4.of (Rat.divInt (100) 1),Fr4.of (Rat.divInt (0) 1))).map .t)) ?_
    refine eZ (key:=2) 4 (by kernel_rfl) rfl rfl aA rfl ⟨rfl,trivial⟩ ?_
    refine jG (i:=15) (k:=2) (t:=70) (t':=70) (z:=8) (n:=3) (l:=(gX jU).flatMap bV) rfl rfl rfl rfl (.one .sl) (by rfl) (by rfl) ?_
    refine aF 5 rfl uQ jJ ⟨aB rfl,a1 rfl,rfl⟩ (.tup [.agg [.t (.s false 66 24 (dJ jU).length ((dJ jU).flatMap (cE true))),.t (.s false 46 14 gK.length (gK.flatMap (dQ true)))],.one (tv (.int .i64 0))]) ?_
    refine df 6 ?_;refine df 7 ?_;refine df 8 ?_;refine aX 10 (by kernel_rfl) rfl rfl aA rfl rfl rfl rfl ⟨rfl,trivial⟩ ?_
    refine cR 11 (by kernel_rfl) rfl rfl aA rfl (by trivial) ?_ (fun h=>by first | rfl | cases h)
    refine aJ ?_;exact⟨(),trivial,aG h0 [0,1] _ _ (by decide) ⟨rfl,rfl,rfl,trivial⟩ ⟨oe rfl rfl,oe rfl rfl,rfl⟩⟩
   refine bI (key:=1) 9 rfl rfl aA rfl ⟨rfl,trivial⟩ ?_
   refine aF 2 rfl (dB (n:=-50) (m:=0) (by omega) (by omega) (by omega) (by omega)) eU ⟨a1 rfl,a1 rfl,rfl⟩ (.agg ((bV (Fr4.of (Rat.divInt (-50) 1),Fr4.of (Rat.divInt (0) 1))).map .t)) ?_
   refine aF 3 rfl (dB (n:=100) (m:=0) (by omega) (by omega) (by omega) (by omega)) eU ⟨a1 rfl,a1 rfl,rfl⟩ (.agg ((bV (Fr4.of (Rat.divInt (100) 1),Fr4.of (Rat.divInt (0) 1))).map .t)) ?_
   refine eZ (key:=2) 4 (by kernel_rfl) rfl rfl aA rfl ⟨rfl,trivial⟩ ?_
   refine jG (i:=15) (k:=2) (t:=70) (t':=70) (z:=8) (n:=3) (l:=(gX jU).flatMap bV) rfl rfl rfl rfl (.one .sl) (by rfl) (by rfl) ?_
   refine aF 5 rfl uQ jJ ⟨aB rfl,a1 rfl,rfl⟩ (.tup [.agg [.t (.s false 66 24 (dJ jU).length ((dJ jU).flatMap (cE true))),.t (.s false 46 14 gK.length (gK.flatMap (dQ true)))],.one (tv (.int .i64 0))]) ?_
   refine df 6 ?_;refine df 7 ?_;refine df 8 ?_;refine aX 10 (by kernel_rfl) rfl rfl aA rfl rfl rfl rfl ⟨rfl,trivial⟩ ?_
   refine cR 11 (by kernel_rfl) rfl rfl aA rfl (by trivial) ?_ (fun h=>by first | rfl | cases h)
   refine aJ ?_;exact⟨(),trivial,aG h0 [0,1] _ _ (by decide) ⟨rfl,rfl,rfl,trivial⟩ ⟨oe rfl rfl,oe rfl rfl,rfl⟩⟩
  refine bI (key:=1) 9 rfl rfl aA rfl ⟨rfl,trivial⟩ ?_
  refine aF 1 rfl (dB (n:=100) (m:=0) (by omega) (by omega) (by omega) (by omega)) eU ⟨a1 rfl,a1 rfl,rfl⟩ (.agg ((bV (Fr4.of (Rat.divInt (100) 1),Fr4.of (Rat.divInt (0) 1))).map .t)) ?_
  refine aF 2 rfl (dB (n:=-50) (m:=0) (by omega) (by omega) (by omega) (by omega)) eU ⟨a1 rfl,a1 rfl,rfl⟩ (.agg ((bV (Fr4.of (Rat.divInt (-50) 1),Fr4.of (Rat.divInt (0) 1))).map .t)) ?_
  refine aF 3 rfl (dB (n:=100) (m:=0) (by omega) (by omega) (by omega) (by omega)) eU ⟨a1 rfl,a1 rfl,rfl⟩ (.agg ((bV (Fr4.of (Rat.divInt (100) 1),Fr4.of (Rat.divInt (0) 1))).map .t)) ?_
  refine eZ (key:=2) 4 (by kernel_rfl) rfl rfl aA rfl ⟨rfl,trivial⟩ ?_
  refine jG (i:=15) (k:=2) (t:=70) (t':=70) (z:=8) (n:=3) (l:=(gX jU).flatMap bV) rfl rfl rfl rfl (.one .sl) (by rfl) (by rfl) ?_
  refine aF 5 rfl uQ jJ ⟨aB rfl,a1 rfl,rfl⟩ (.tup [.agg [.t (.s false 66 24 (dJ jU).length ((dJ jU).flatMap (cE true))),.t (.s false 46 14 gK.length (gK.flatMap (dQ true)))],.one (tv (.int .i64 0))]) ?_
  refine df 6 ?_;refine df 7 ?_;refine df 8 ?_;refine aX 10 (by kernel_rfl) rfl rfl aA rfl rfl rfl rfl ⟨rfl,trivial⟩ ?_
  refine cR 11 (by kernel_rfl) rfl rfl aA rfl (by trivial) ?_ (fun h=>by first | rfl | cases h)
  refine aJ ?_;exact⟨(),trivial,aG h0 [0,1] _ _ (by decide) ⟨rfl,rfl,rfl,trivial⟩ ⟨oe rfl rfl,oe rfl rfl,rfl⟩⟩
 refine md (γ:=Unit) (fun _=>bS [(1,.one (.pt 0 0)),(2,.one (.pt 1 0)),(3,.one (tv (.int .i64 ((0:Nat):Int)))),(4,.one (.pt 2 0))]) (fun _=>([⟨28,0,((Fr4.of (Rat.divInt 3 5)).tr false++[.v (.int .i64 1),.v (.int .i64 2)]:List Tr).map .t⟩,⟨35,0,[.t (dI false false (dJ jU)),.t (cN false false gK)]⟩,⟨35,0,[.t (.s false 66 24 (dJ iY).length ((dJ iY).flatMap (cE true))),.t (.s false 46 14 fK.length (fK.flatMap (dQ true)))]⟩]:List Ob).map some) (fun _=>True) ?_ fun _ _=>?_
 ·refine WP.sub ((Qh (j:=1) (p:=0) (y:=.s false 66 24 (dJ jU).length ((dJ jU).flatMap (cE true))) (l':=[.t (dI false false (dJ jU)),.t (.s false 46 14 gK.length (gK.flatMap (dQ true)))]) rfl rfl rfl (by rw[gR,Jf];rfl)).trans (Qh (j:=1) (p:=1) (y:=.s false 46 14 gK.length (gK.flatMap (dQ true))) (l':=[.t (dI false false (dJ jU)),.t (cN false false gK)]) rfl rfl rfl (by rw[gR,Jg];rfl))) ?_
  refine rd [0,1] (fun i=>[12].contains i) mixed ?_
  refine aI 0 ?_;refine WO.two (i:=1) (j:=10) (by kernel_rfl) ?_ ?_
  ·refine cX 1 rfl (dB (n:=100) (m:=0) (by omega) (by omega) (by omega) (by omega)) eU ⟨a1 rfl,a1 rfl,rfl⟩ (.agg ((bV (Fr4.of (Rat.divInt (100) 1),Fr4.of (Rat.divInt (0) 1))).map .t)) ?_
   refine WO.two (i:=2) (j:=10) (by kernel_rfl) ?_ ?_
   ·refine cX 2 rfl (dB (n:=-80) (m:=0) (by omega) (by omega) (by omega) (by omega)) eU ⟨a1 rfl,a1 rfl,rfl⟩ (.agg ((bV (Fr4.of (Rat.divInt (-80) 1),Fr4.of (Rat.divInt (0) 1))).map .t)) ?_
    refine WO.two (i:=3) (j:=10) (by kernel_rfl) ?_ ?_
    ·refine cX 3 rfl (dB (n:=30) (m:=0) (by omega) (by omega) (by omega) (by omega)) eU ⟨a1 rfl,a1 rfl,rfl⟩ (.agg ((bV (Fr4.of (Rat.divInt (30) 1),Fr4.of (Rat.divInt (0) 1))).map .t)) ?_
     refine WO.two (i:=4) (j:=10) (by kernel_rfl) ?_ ?_
     ·refine cX 4 rfl (dB (n:=100) (m:=0) (by omega) (by omega) (by omega) (by omega)) eU ⟨a1 rfl,a1 rfl,rfl⟩ (.agg ((bV (Fr4.of (Rat.divInt (100) 1),Fr4.of (Rat.divInt (0) 1))).map .t)) ?_
      refine WO.two (i:=5) (j:=10) (by kernel_rfl) ?_ ?_
      ·refine Fk (key:=2) 5 rfl rfl ⟨rfl,rfl,trivial⟩ ?_
       refine jG (i:=25) (k:=2) (t:=70) (t':=70) (z:=8) (n:=4) (l:=(gX iY).flatMap bV) rfl rfl rfl rfl (.one .sl) (by rfl) (by rfl) ?_
       refine WO.two (i:=6) (j:=10) (by kernel_rfl) ?_ ?_
       ·refine cX 6 rfl rQ jJ ⟨aB rfl,a1 rfl,rfl⟩ (.tup [.agg [.t (.s false 66 24 (dJ iY).length ((dJ iY).flatMap (cE true))),.t (.s false 46 14 fK.length (fK.flatMap (dQ true)))],.one (tv (.int .i64 0))]) ?_
        refine df 7 ?_;refine df 8 ?_;refine df 9 ?_;refine eN (key:=3) 10 (by kernel_rfl) rfl rfl aA rfl ⟨rfl,rfl,trivial⟩ ?_
        refine aX 11 (by kernel_rfl) rfl rfl aA rfl rfl rfl rfl ⟨rfl,rfl,trivial⟩ ?_
        refine cR 12 (by kernel_rfl) rfl rfl aA rfl (by trivial) ?_ (fun h=>by first | rfl | cases h)
        refine aJ ?_;exact⟨(),trivial,aG h0 [0,1,3] _ _ (by decide) ⟨rfl,rfl,rfl,rfl,trivial⟩ ⟨oe rfl rfl,oe rfl rfl,oe rfl rfl,rfl⟩⟩
       refine bI (key:=3) 10 rfl rfl aA rfl ⟨rfl,rfl,trivial⟩ ?_
       refine aF 6 rfl rQ jJ ⟨aB rfl,a1 rfl,rfl⟩ (.tup [.agg [.t (.s false 66 24 (dJ iY).length ((dJ iY).flatMap (cE true))),.t (.s false 46 14 fK.length (fK.flatMap (dQ true)))],.one (tv (.int .i64 0))]) ?_
       refine df 7 ?_;refine df 8 ?_;refine df 9 ?_;refine aX 11 (by kernel_rfl) rfl rfl aA rfl rfl rfl rfl ⟨rfl,rfl,trivial⟩ ?_
       refine cR 12 (by kernel_rfl) rfl rfl aA rfl (by trivial) ?_ (fun h=>by first | rfl | cases h)
       refine aJ ?_;exact⟨(),trivial,aG h0 [0,1,3] _ _ (by decide) ⟨rfl,rfl,rfl,rfl,trivial⟩ ⟨oe rfl rfl,oe rfl rfl,oe rfl rfl,rfl⟩⟩
      refine bI (key:=2) 10 rfl rfl aA rfl ⟨rfl,rfl,trivial⟩ ?_;refine eZ (key:=3) 5 (by kernel_rfl) rfl rfl aA rfl ⟨rfl,rfl,trivial⟩ ?_
      refine jG (i:=25) (k:=3) (t:=70) (t':=70) (z:=8) (n:=4) (l:=(gX iY).flatMap bV) rfl rfl rfl rfl (.one .sl) (by rfl) (by rfl) ?_
      refine aF 6 rfl rQ jJ ⟨aB rfl,a1 rfl,rfl⟩ (.tup [.agg [.t (.s false 66 24 (dJ iY).length ((dJ iY).flatMap (cE true))),.t (.s false 46 14 fK.length (fK.flatMap (dQ true)))],.one (tv (.int .i64 0))]) ?_
      refine df 7 ?_;refine df 8 ?_;refine df 9 ?_;refine aX 11 (by kernel_rfl) rfl rfl aA rfl rfl rfl rfl ⟨rfl,rfl,trivial⟩ ?_
      refine cR 12 (by kernel_rfl) rfl rfl aA rfl (by trivial) ?_ (fun h=>by first | rfl | cases h)
      refine aJ ?_;exact⟨(),trivial,aG h0 [0,1,2] _ _ (by decide) ⟨rfl,rfl,rfl,rfl,trivial⟩ ⟨oe rfl rfl,oe rfl rfl,oe rfl rfl,rfl⟩⟩
     refine bI (key:=2) 10 rfl rfl aA rfl ⟨rfl,rfl,trivial⟩ ?_
     refine aF 4 rfl (dB (n:=100) (m:=0) (by omega) (by omega) (by omega) (by omega)) eU ⟨a1 rfl,a1 rfl,rfl⟩ (.agg ((bV (Fr4.of (Rat.divInt (100) 1),Fr4.of (Rat.divInt (0) 1))).map .t)) ?_
     refine eZ (key:=3) 5 (by kernel_rfl) rfl rfl aA rfl ⟨rfl,rfl,trivial⟩ ?_
     refine jG (i:=25) (k:=3) (t:=70) (t':=70) (z:=8) (n:=4) (l:=(gX iY).flatMap bV) rfl rfl rfl rfl (.one .sl) (by rfl) (by rfl) ?_
     refine aF 6 rfl rQ jJ ⟨aB rfl,a1 rfl,rfl⟩ (.tup [.agg [.t (.s false 66 24 (dJ iY).length ((dJ iY).flatMap (cE true))),.t (.s false 46 14 fK.length (fK.flatMap (dQ true)))],.one (tv (.int .i64 0))]) ?_
     refine df 7 ?_;refine df 8 ?_;refine df 9 ?_;refine aX 11 (by kernel_rfl) rfl rfl aA rfl rfl rfl rfl ⟨rfl,rfl,trivial⟩ ?_
     refine cR 12 (by kernel_rfl) rfl rfl aA rfl (by trivial) ?_ (fun h=>by first | rfl | cases h)
     refine aJ ?_;exact⟨(),trivial,aG h0 [0,1,2] _ _ (by decide) ⟨rfl,rfl,rfl,rfl,trivial⟩ ⟨oe rfl rfl,oe rfl rfl,oe rfl rfl,rfl⟩⟩
    refine bI (key:=2) 10 rfl rfl aA rfl ⟨rfl,rfl,trivial⟩ ?_
    refine aF 3 rfl (dB (n:=30) (m:=0) (by omega) (by omega) (by omega) (by omega)) eU ⟨a1 rfl,a1 rfl,rfl⟩ (.agg ((bV (Fr4.of (Rat.divInt (30) 1),Fr4.of (Rat.divInt (0) 1))).map .t)) ?_
    refine aF 4 rfl (dB (n:=100) (m:=0) (by omega) (by omega) (by omega) (by omega)) eU ⟨a1 rfl,a1 rfl,rfl⟩ (.agg ((bV (Fr4.of (Rat.divInt (100) 1),Fr4.of (Rat.divInt (0) 1))).map .t)) ?_
    refine eZ (key:=3) 5 (by kernel_rfl) rfl rfl aA rfl ⟨rfl,rfl,trivial⟩ ?_
    refine jG (i:=25) (k:=3) (t:=70) (t':=70) (z:=8) (n:=4) (l:=(gX iY).flatMap bV) rfl rfl rfl rfl (.one .sl) (by rfl) (by rfl) ?_
    refine aF 6 rfl rQ jJ ⟨aB rfl,a1 rfl,rfl⟩ (.tup [.agg [.t (.s false 66 24 (dJ iY).length ((dJ iY).flatMap (cE true))),.t (.s false 46 14 fK.length (fK.flatMap (dQ true)))],.one (tv (.int .i64 0))]) ?_
    refine df 7 ?_;refine df 8 ?_;refine df 9 ?_;refine aX 11 (by kernel_rfl) rfl rfl aA rfl rfl rfl rfl ⟨rfl,rfl,trivial⟩ ?_
    refine cR 12 (by kernel_rfl) rfl rfl aA rfl (by trivial) ?_ (fun h=>by first | rfl | cases h)
    refine aJ ?_;exact⟨(),trivial,aG h0 [0,1,2] _ _ (by decide) ⟨rfl,rfl,rfl,rfl,trivial⟩ ⟨oe rfl rfl,oe rfl rfl,oe rfl rfl,rfl⟩⟩
   refine bI (key:=2) 10 rfl rfl aA rfl ⟨rfl,rfl,trivial⟩ ?_
   refine aF 2 rfl (dB (n:=-80) (m:=0) (by omega) (by omega) (by omega) (by omega)) eU ⟨a1 rfl,a1 rfl,rfl⟩ (.agg ((bV (Fr4.of (Rat.divInt (-80) 1),Fr4.of (Rat.divInt (0) 1))).map .t)) ?_
   refine aF 3 rfl (dB (n:=30) (m:=0) (by omega) (by omega) (by omega) (by omega)) eU ⟨a1 rfl,a1 rfl,rfl⟩ (.agg ((bV (Fr4.of (Rat.divInt (30) 1),Fr4.of (Rat.divInt (0) 1))).map .t)) ?_
   refine aF 4 rfl (dB (n:=100) (m:=0) (by omega) (by omega) (by omega) (by omega)) eU ⟨a1 rfl,a1 rfl,rfl⟩ (.agg ((bV (Fr4.of (Rat.divInt (100) 1),Fr4.of (Rat.divInt (0) 1))).map .t)) ?_
   refine eZ (key:=3) 5 (by kernel_rfl) rfl rfl aA rfl ⟨rfl,rfl,trivial⟩ ?_
   refine jG (i:=25) (k:=3) (t:=70) (t':=70) (z:=8) (n:=4) (l:=(gX iY).flatMap bV) rfl rfl rfl rfl (.one .sl) (by rfl) (by rfl) ?_
   refine aF 6 rfl rQ jJ ⟨aB rfl,a1 rfl,rfl⟩ (.tup [.agg [.t (.s false 66 24 (dJ iY).length ((dJ iY).flatMap (cE true))),.t (.s false 46 14 fK.length (fK.flatMap (dQ true)))],.one (tv (.int .i64 0))]) ?_
   refine df 7 ?_;refine df 8 ?_;refine df 9 ?_;refine aX 11 (by kernel_rfl) rfl rfl aA rfl rfl rfl rfl ⟨rfl,rfl,trivial⟩ ?_
   refine cR 12 (by kernel_rfl) rfl rfl aA rfl (by trivial) ?_ (fun h=>by first | rfl | cases h)
   refine aJ ?_;exact⟨(),trivial,aG h0 [0,1,2] _ _ (by decide) ⟨rfl,rfl,rfl,rfl,trivial⟩ ⟨oe rfl rfl,oe rfl rfl,oe rfl rfl,rfl⟩⟩
  refine bI (key:=2) 10 rfl rfl aA rfl ⟨rfl,rfl,trivial⟩ ?_
  refine aF 1 rfl (dB (n:=100) (m:=0) (by omega) (by omega) (by omega) (by omega)) eU ⟨a1 rfl,a1 rfl,rfl⟩ (.agg ((bV (Fr4.of (Rat.divInt (100) 1),Fr4.of (Rat.divInt (0) 1))).map .t)) ?_
  refine aF 2 rfl (dB (n:=-80) (m:=0) (by omega) (by omega) (by omega) (by omega)) eU ⟨a1 rfl,a1 rfl,rfl⟩ (.agg ((bV (Fr4.of (Rat.divInt (-80) 1),Fr4.of (Rat.divInt (0) 1))).map .t)) ?_
  refine aF 3 rfl (dB (n:=30) (m:=0) (by omega) (by omega) (by omega) (by omega)) eU ⟨a1 rfl,a1 rfl,rfl⟩ (.agg ((bV (Fr4.of (Rat.divInt (30) 1),Fr4.of (Rat.divInt (0) 1))).map .t)) ?_
  refine aF 4 rfl (dB (n:=100) (m:=0) (by omega) (by omega) (by omega) (by omega)) eU ⟨a1 rfl,a1 rfl,rfl⟩ (.agg ((bV (Fr4.of (Rat.divInt (100) 1),Fr4.of (Rat.divInt (0) 1))).map .t)) ?_
  refine eZ (key:=3) 5 (by kernel_rfl) rfl rfl aA rfl ⟨rfl,rfl,trivial⟩ ?_
  refine jG (i:=25) (k:=3) (t:=70) (t':=70) (z:=8) (n:=4) (l:=(gX iY).flatMap bV) rfl rfl rfl rfl (.one .sl) (by rfl) (by rfl) ?_
  refine aF 6 rfl rQ jJ ⟨aB rfl,a1 rfl,rfl⟩ (.tup [.agg [.t (.s false 66 24 (dJ iY).length ((dJ iY).flatMap (cE true))),.t (.s false 46 14 fK.length (fK.flatMap (dQ true)))],.one (tv (.int .i64 0))]) ?_
  refine df 7 ?_;refine df 8 ?_;refine df 9 ?_;refine aX 11 (by kernel_rfl) rfl rfl aA rfl rfl rfl rfl ⟨rfl,rfl,trivial⟩ ?_
  refine cR 12 (by kernel_rfl) rfl rfl aA rfl (by trivial) ?_ (fun h=>by first | rfl | cases h)
  refine aJ ?_;exact⟨(),trivial,aG h0 [0,1,2] _ _ (by decide) ⟨rfl,rfl,rfl,rfl,trivial⟩ ⟨oe rfl rfl,oe rfl rfl,oe rfl rfl,rfl⟩⟩
 refine md (γ:=Unit) (fun _=>bS [(1,.one (.pt 0 0)),(2,.one (.pt 1 0)),(3,.one (tv (.int .i64 ((0:Nat):Int)))),(4,.one (.pt 2 0)),(6,.one (.pt 3 0))]) (fun _=>([⟨28,0,((Fr4.of (Rat.divInt 3 5)).tr false++[.v (.int .i64 1),.v (.int .i64 2)]:List Tr).map .t⟩,⟨35,0,[.t (dI false false (dJ jU)),.t (cN false false gK)]⟩,⟨35,0,[.t (dI false false (dJ iY)),.t (cN false false fK)]⟩,⟨35,0,[.t (.s false 66 24 (dJ gT).length ((dJ gT).flatMap (cE true))),.t (.s false 46 14 iK.length (iK.flatMap (dQ true)))]⟩]:List Ob).map some) (fun _=>True) ?_ fun _ _=>?_
 ·refine WP.sub ((Qh (j:=2) (p:=0) (y:=.s false 66 24 (dJ iY).length ((dJ iY).flatMap (cE true))) (l':=[.t (dI false false (dJ iY)),.t (.s false 46 14 fK.length (fK.flatMap (dQ true)))]) rfl rfl rfl (by rw[gR,Jf];rfl)).trans (Qh (j:=2) (p:=1) (y:=.s false 46 14 fK.length (fK.flatMap (dQ true))) (l':=[.t (dI false false (dJ iY)),.t (cN false false fK)]) rfl rfl rfl (by rw[gR,Jg];rfl))) ?_
  refine rd [0,1,2] (fun i=>[12].contains i) mixed ?_
  refine aI 0 ?_;refine WO.two (i:=1) (j:=10) (by kernel_rfl) ?_ ?_
  ·refine cX 1 rfl (dB (n:=-10) (m:=0) (by omega) (by omega) (by omega) (by omega)) eU ⟨a1 rfl,a1 rfl,rfl⟩ (.agg ((bV (Fr4.of (Rat.divInt (-10) 1),Fr4.of (Rat.divInt (0) 1))).map .t)) ?_
   refine WO.two (i:=2) (j:=10) (by kernel_rfl) ?_ ?_
   ·refine cX 2 rfl (dB (n:=0) (m:=0) (by omega) (by omega) (by omega) (by omega)) eU ⟨a1 rfl,a1 rfl,rfl⟩ (.agg ((bV (Fr4.of (Rat.divInt (0) 1),Fr4.of (Rat.divInt (0) 1))).map .t)) ?_
    refine WO.two (i:=3) (j:=10) (by kernel_rfl) ?_ ?_
    ·refine cX 3 rfl (dB (n:=0) (m:=0) (by omega) (by omega) (by omega) (by omega)) eU ⟨a1 rfl,a1 rfl,rfl⟩ (.agg ((bV (Fr4.of (Rat.divInt (0) 1),Fr4.of (Rat.divInt (0) 1))).map .t)) ?_
     refine WO.two (i:=4) (j:=10) (by kernel_rfl) ?_ ?_
     ·refine cX 4 rfl (dB (n:=100) (m:=0) (by omega) (by omega) (by omega) (by omega)) eU ⟨a1 rfl,a1 rfl,rfl⟩ (.agg ((bV (Fr4.of (Rat.divInt (100) 1),Fr4.of (Rat.divInt (0) 1))).map .t)) ?_
      refine WO.two (i:=5) (j:=10) (by kernel_rfl) ?_ ?_
      ·refine Fk (key:=3) 5 rfl rfl ⟨rfl,rfl,rfl,trivial⟩ ?_
       refine jG (i:=35) (k:=3) (t:=70) (t':=70) (z:=8) (n:=4) (l:=(gX gT).flatMap bV) rfl rfl rfl rfl (.one .sl) (by rfl) (by rfl) ?_
       refine WO.two (i:=6) (j:=10) (by kernel_rfl) ?_ ?_
       ·refine cX 6 rfl rR jJ ⟨aB rfl,a1 rfl,rfl⟩ (.tup [.agg [.t (.s false 66 24 (dJ gT).length ((dJ gT).flatMap (cE true))),.t (.s false 46 14 iK.length (iK.flatMap (dQ true)))],.one (tv (.int .i64 0))]) ?_
        refine df 7 ?_;refine df 8 ?_;refine df 9 ?_;refine eN (key:=4) 10 (by kernel_rfl) rfl rfl aA rfl ⟨rfl,rfl,rfl,trivial⟩ ?_
        refine aX 11 (by kernel_rfl) rfl rfl aA rfl rfl rfl rfl ⟨rfl,rfl,rfl,trivial⟩ ?_
        refine cR 12 (by kernel_rfl) rfl rfl aA rfl (by trivial) ?_ (fun h=>by first | rfl | cases h)
        refine aJ ?_;exact⟨(),trivial,aG h0 [0,1,2,4] _ _ (by decide) ⟨rfl,rfl,rfl,rfl,rfl,trivial⟩ ⟨oe rfl rfl,oe rfl rfl,oe rfl rfl,oe rfl rfl,rfl⟩⟩
       refine bI (key:=4) 10 rfl rfl aA rfl ⟨rfl,rfl,rfl,trivial⟩ ?_
       refine aF 6 rfl rR jJ ⟨aB rfl,a1 rfl,rfl⟩ (.tup [.agg [.t (.s false 66 24 (dJ gT).length ((dJ gT).flatMap (cE true))),.t (.s false 46 14 iK.length (iK.flatMap (dQ true)))],.one (tv (.int .i64 0))]) ?_
       refine df 7 ?_;refine df 8 ?_;refine df 9 ?_;refine aX 11 (by kernel_rfl) rfl rfl aA rfl rfl rfl rfl ⟨rfl,rfl,rfl,trivial⟩ ?_
       refine cR 12 (by kernel_rfl) rfl rfl aA rfl (by trivial) ?_ (fun h=>by first | rfl | cases h)
       refine aJ ?_;exact⟨(),trivial,aG h0 [0,1,2,4] _ _ (by decide) ⟨rfl,rfl,rfl,rfl,rfl,trivial⟩ ⟨oe rfl rfl,oe rfl rfl,oe rfl rfl,oe rfl rfl,rfl⟩⟩
      refine bI (key:=3) 10 rfl rfl aA rfl ⟨rfl,rfl,rfl,trivial⟩ ?_;refine eZ (key:=4) 5 (by kernel_rfl) rfl rfl aA rfl ⟨rfl,rfl,rfl,trivial⟩ ?_
      refine jG (i:=35) (k:=4) (t:=70) (t':=70) (z:=8) (n:=4) (l:=(gX gT).flatMap bV) rfl rfl rfl rfl (.one .sl) (by rfl) (by rfl) ?_
      refine aF 6 rfl rR jJ ⟨aB rfl,a1 rfl,rfl⟩ (.tup [.agg [.t (.s false 66 24 (dJ gT).length ((dJ gT).flatMap (cE true))),.t (.s false 46 14 iK.length (iK.flatMap (dQ true)))],.one (tv (.int .i64 0))]) ?_
      refine df 7 ?_;refine df 8 ?_;refine df 9 ?_;refine aX 11 (by kernel_rfl) rfl rfl aA rfl rfl rfl rfl ⟨rfl,rfl,rfl,trivial⟩ ?_
      refine cR 12 (by kernel_rfl) rfl rfl aA rfl (by trivial) ?_ (fun h=>by first | rfl | cases h)
      refine aJ ?_;exact⟨(),trivial,aG h0 [0,1,2,3] _ _ (by decide) ⟨rfl,rfl,rfl,rfl,rfl,trivial⟩ ⟨oe rfl rfl,oe rfl rfl,oe rfl rfl,oe rfl rfl,rfl⟩⟩
     refine bI (key:=3) 10 rfl rfl aA rfl ⟨rfl,rfl,rfl,trivial⟩ ?_
     refine aF 4 rfl (dB (n:=100) (m:=0) (by omega) (by omega) (by omega) (by omega)) eU ⟨a1 rfl,a1 rfl,rfl⟩ (.agg ((bV (Fr4.of (Rat.divInt (100) 1),Fr4.of (Rat.divInt (0) 1))).map .t)) ?_
     refine eZ (key:=4) 5 (by kernel_rfl) rfl rfl aA rfl ⟨rfl,rfl,rfl,trivial⟩ ?_
     refine jG (i:=35) (k:=4) (t:=70) (t':=70) (z:=8) (n:=4) (l:=(gX gT).flatMap bV) rfl rfl rfl rfl (.one .sl) (by rfl) (by rfl) ?_
     refine aF 6 rfl rR jJ ⟨aB rfl,a1 rfl,rfl⟩ (.tup [.agg [.t (.s false 66 24 (dJ gT).length ((dJ gT).flatMap (cE true))),.t (.s false 46 14 iK.length (iK.flatMap (dQ true)))],.one (tv (.int .i64 0))]) ?_
     refine df 7 ?_;refine df 8 ?_;refine df 9 ?_;refine aX 11 (by kernel_rfl) rfl rfl aA rfl rfl rfl rfl ⟨rfl,rfl,rfl,trivial⟩ ?_
     refine cR 12 (by kernel_rfl) rfl rfl aA rfl (by trivial) ?_ (fun h=>by first | rfl | cases h)
     refine aJ ?_;exact⟨(),trivial,aG h0 [0,1,2,3] _ _ (by decide) ⟨rfl,rfl,rfl,rfl,rfl,trivial⟩ ⟨oe rfl rfl,oe rfl rfl,oe rfl rfl,oe rfl rfl,rfl⟩⟩
    refine bI (key:=3) 10 rfl rfl aA rfl ⟨rfl,rfl,rfl,trivial⟩ ?_
    refine aF 3 rfl (dB (n:=0) (m:=0) (by omega) (by omega) (by omega) (by omega)) eU ⟨a1 rfl,a1 rfl,rfl⟩ (.agg ((bV (Fr4.of (Rat.divInt (0) 1),Fr4.of (Rat.divInt (0) 1))).map .t)) ?_
    refine aF 4 rfl (dB (n:=100) (m:=0) (by omega) (by omega) (by omega) (by omega)) eU ⟨a1 rfl,a1 rfl,rfl⟩ (.agg ((bV (Fr4.of (Rat.divInt (100) 1),Fr4.of (Rat.divInt (0) 1))).map .t)) ?_
    refine eZ (key:=4) 5 (by kernel_rfl) rfl rfl aA rfl ⟨rfl,rfl,rfl,trivial⟩ ?_
    refine jG (i:=35) (k:=4) (t:=70) (t':=70) (z:=8) (n:=4) (l:=(gX gT).flatMap bV) rfl rfl rfl rfl (.one .sl) (by rfl) (by rfl) ?_
    refine aF 6 rfl rR jJ ⟨aB rfl,a1 rfl,rfl⟩ (.tup [.agg [.t (.s false 66 24 (dJ gT).length ((dJ gT).flatMap (cE true))),.t (.s false 46 14 iK.length (iK.flatMap (dQ true)))],.one (tv (.int .i64 0))]) ?_
    refine df 7 ?_;refine df 8 ?_;refine df 9 ?_;refine aX 11 (by kernel_rfl) rfl rfl aA rfl rfl rfl rfl ⟨rfl,rfl,rfl,trivial⟩ ?_
    refine cR 12 (by kernel_rfl) rfl rfl aA rfl (by trivial) ?_ (fun h=>by first | rfl | cases h)
    refine aJ ?_;exact⟨(),trivial,aG h0 [0,1,2,3] _ _ (by decide) ⟨rfl,rfl,rfl,rfl,rfl,trivial⟩ ⟨oe rfl rfl,oe rfl rfl,oe rfl rfl,oe rfl rfl,rfl⟩⟩
   refine bI (key:=3) 10 rfl rfl aA rfl ⟨rfl,rfl,rfl,trivial⟩ ?_
   refine aF 2 rfl (dB (n:=0) (m:=0) (by omega) (by omega) (by omega) (by omega)) eU ⟨a1 rfl,a1 rfl,rfl⟩ (.agg ((bV (Fr4.of (Rat.divInt (0) 1),Fr4.of (Rat.divInt (0) 1))).map .t)) ?_
   refine aF 3 rfl (dB (n:=0) (m:=0) (by omega) (by omega) (by omega) (by omega)) eU ⟨a1 rfl,a1 rfl,rfl⟩ (.agg ((bV (Fr4.of (Rat.divInt (0) 1),Fr4.of (Rat.divInt (0) 1))).map .t)) ?_
   refine aF 4 rfl (dB (n:=100) (m:=0) (by omega) (by omega) (by omega) (by omega)) eU ⟨a1 rfl,a1 rfl,rfl⟩ (.agg ((bV (Fr4.of (Rat.divInt (100) 1),Fr4.of (Rat.divInt (0) 1))).map .t)) ?_
   refine eZ (key:=4) 5 (by kernel_rfl) rfl rfl aA rfl ⟨rfl,rfl,rfl,trivial⟩ ?_
   refine jG (i:=35) (k:=4) (t:=70) (t':=70) (z:=8) (n:=4) (l:=(gX gT).flatMap bV) rfl rfl rfl rfl (.one .sl) (by rfl) (by rfl) ?_
   refine aF 6 rfl rR jJ ⟨aB rfl,a1 rfl,rfl⟩ (.tup [.agg [.t (.s false 66 24 (dJ gT).length ((dJ gT).flatMap (cE true))),.t (.s false 46 14 iK.length (iK.flatMap (dQ true)))],.one (tv (.int .i64 0))]) ?_
   refine df 7 ?_;refine df 8 ?_;refine df 9 ?_;refine aX 11 (by kernel_rfl) rfl rfl aA rfl rfl rfl rfl ⟨rfl,rfl,rfl,trivial⟩ ?_
   refine cR 12 (by kernel_rfl) rfl rfl aA rfl (by trivial) ?_ (fun h=>by first | rfl | cases h)
   refine aJ ?_;exact⟨(),trivial,aG h0 [0,1,2,3] _ _ (by decide) ⟨rfl,rfl,rfl,rfl,rfl,trivial⟩ ⟨oe rfl rfl,oe rfl rfl,oe rfl rfl,oe rfl rfl,rfl⟩⟩
  refine bI (key:=3) 10 rfl rfl aA rfl ⟨rfl,rfl,rfl,trivial⟩ ?_
  refine aF 1 rfl (dB (n:=-10) (m:=0) (by omega) (by omega) (by omega) (by omega)) eU ⟨a1 rfl,a1 rfl,rfl⟩ (.agg ((bV (Fr4.of (Rat.divInt (-10) 1),Fr4.of (Rat.divInt (0) 1))).map .t)) ?_
  refine aF 2 rfl (dB (n:=0) (m:=0) (by omega) (by omega) (by omega) (by omega)) eU ⟨a1 rfl,a1 rfl,rfl⟩ (.agg ((bV (Fr4.of (Rat.divInt (0) 1),Fr4.of (Rat.divInt (0) 1))).map .t)) ?_
  refine aF 3 rfl (dB (n:=0) (m:=0) (by omega) (by omega) (by omega) (by omega)) eU ⟨a1 rfl,a1 rfl,rfl⟩ (.agg ((bV (Fr4.of (Rat.divInt (0) 1),Fr4.of (Rat.divInt (0) 1))).map .t)) ?_
  refine aF 4 rfl (dB (n:=100) (m:=0) (by omega) (by omega) (by omega) (by omega)) eU ⟨a1 rfl,a1 rfl,rfl⟩ (.agg ((bV (Fr4.of (Rat.divInt (100) 1),Fr4.of (Rat.divInt (0) 1))).map .t)) ?_
  refine eZ (key:=4) 5 (by kernel_rfl) rfl rfl aA rfl ⟨rfl,rfl,rfl,trivial⟩ ?_
  refine jG (i:=35) (k:=4) (t:=70) (t':=70) (z:=8) (n:=4) (l:=(gX gT).flatMap bV) rfl rfl rfl rfl (.one .sl) (by rfl) (by rfl) ?_
  refine aF 6 rfl rR jJ ⟨aB rfl,a1 rfl,rfl⟩ (.tup [.agg [.t (.s false 66 24 (dJ gT).length ((dJ gT).flatMap (cE true))),.t (.s false 46 14 iK.length (iK.flatMap (dQ true)))],.one (tv (.int .i64 0))]) ?_
  refine df 7 ?_;refine df 8 ?_;refine df 9 ?_;refine aX 11 (by kernel_rfl) rfl rfl aA rfl rfl rfl rfl ⟨rfl,rfl,rfl,trivial⟩ ?_
  refine cR 12 (by kernel_rfl) rfl rfl aA rfl (by trivial) ?_ (fun h=>by first | rfl | cases h)
  refine aJ ?_;exact⟨(),trivial,aG h0 [0,1,2,3] _ _ (by decide) ⟨rfl,rfl,rfl,rfl,rfl,trivial⟩ ⟨oe rfl rfl,oe rfl rfl,oe rfl rfl,oe rfl rfl,rfl⟩⟩
 refine sq ?_;refine sq ?_
 refine WP.sub ((Qh (j:=3) (p:=0) (y:=.s false 66 24 (dJ gT).length ((dJ gT).flatMap (cE true))) (l':=[.t (dI false false (dJ gT)),.t (.s false 46 14 iK.length (iK.flatMap (dQ true)))]) rfl rfl rfl (by rw[gR,Jf];rfl)).trans (Qh (j:=3) (p:=1) (y:=.s false 46 14 iK.length (iK.flatMap (dQ true))) (l':=[.t (dI false false (dJ gT)),.t (cN false false iK)]) rfl rfl rfl (by rw[gR,Jg];rfl))) ?_
 refine rl ?_;(iterate 3 refine o1 ?_);refine WL.split (t:=41) rfl (fun h1=>?_) (fun h1=>?_)
 ·exact absurd h1 (by omega)
 refine o1 ?_;refine ld ?_;(iterate 4 refine o1 ?_);refine WL.split (t:=47) rfl (fun h2=>?_) (fun h2=>?_)
 ·exact absurd h2 (by omega)
 refine o1 ?_;refine ld ?_;(iterate 4 refine o1 ?_);refine WL.split (t:=53) rfl (fun h3=>?_) (fun h3=>?_)
 ·exact absurd h3 (by omega)
 refine o1 ?_;refine ld ?_;(iterate 4 refine o1 ?_);refine WL.split (t:=59) rfl (fun h4=>?_) (fun h4=>?_)
 ·exact absurd h4 (by omega)
 refine o1 ?_;refine ld ?_;(iterate 3 refine o1 ?_);refine nl ?_;refine bP rfl (fun h5=>?_) (fun h5=>?_)
 ·exact absurd h5 (by omega)
 refine sk ?_;refine sq ?_;refine rd [0,1,2,3] (fun i=>[75].contains i) mixed ?_
 refine dv 0 ?_;refine aI 1 ?_;refine dv 2 ?_;refine dv 3 ?_
 refine cM 4 ([.v (.int .i64 (cA gK (0)).v)]) (aP (f:=(dQ false)) (z:=14) (o:=0) (lF false) (iS (by omega)) (Nat.le_of_ble_eq_true rfl) rfl) ?_
 refine dv 5 ?_;refine dv 6 ?_;refine WD.split (t:=71) rfl rfl (fun h6=>?_) (fun h6=>?_)
 ·refine dv 7 ?_;refine aI 8 ?_;refine dv 9 ?_;refine dv 10 ?_
  refine cM 11 ([.v (.int .i64 (cA gK (0)).y)]) (aP (f:=(dQ false)) (z:=14) (o:=1) (lF false) (iS (by omega)) (Nat.le_of_ble_eq_true rfl) rfl) ?_
  refine dv 12 ?_;refine dv 13 ?_;refine dv 14 ?_;refine WD.split (t:=79) rfl rfl (fun h7=>?_) (fun h7=>?_)
  ·refine dv 15 ?_;refine aI 16 ?_;refine dv 17 ?_;refine dv 18 ?_
   refine cM 19 ((Fr4.of (cA gK (0)).n).tr false) (aP (f:=(dQ false)) (z:=14) (o:=2) (lF false) (iS (by omega)) (Nat.le_of_ble_eq_true rfl) rfl) ?_
   refine aF 20 rfl (yF (n:=50) (d:=1) (by omega) (by omega) (by omega) (by omega)) yG ⟨a1 rfl,a1 rfl,rfl⟩ (qF (.of (Rat.divInt 50 1))) ?_
   refine aF 21 rfl (uR (p:=(cA gK (0)).n) (q:=(Rat.divInt 50 1)) ((eV (n:=50) (d:=1) (by omega) (by omega) (by omega) (by omega)).mono (by omega)) (by decide+kernel)) tO ⟨aB rfl,aB rfl,rfl⟩ (.one (tv (.bool true))) ?_
   refine df 22 ?_;refine df 23 ?_;refine dv 24 ?_;refine aI 25 ?_;refine dv 26 ?_;refine dv 27 ?_
   refine cM 28 ((Fr4.of (cA fK (0)).n).tr false) (aP (f:=(dQ false)) (z:=14) (o:=2) (lF false) (iS (by omega)) (Nat.le_of_ble_eq_true rfl) rfl) ?_
   refine aF 29 rfl (yF (n:=60) (d:=1) (by omega) (by omega) (by omega) (by omega)) yG ⟨a1 rfl,a1 rfl,rfl⟩ (qF (.of (Rat.divInt 60 1))) ?_
   refine aF 30 rfl (uR (p:=(cA fK (0)).n) (q:=(Rat.divInt 60 1)) ((eV (n:=60) (d:=1) (by omega) (by omega) (by omega) (by omega)).mono (by omega)) (by decide+kernel)) tO ⟨aB rfl,aB rfl,rfl⟩ (.one (tv (.bool true))) ?_
   refine df 31 ?_;refine df 32 ?_;refine dv 33 ?_;refine aI 34 ?_;refine dv 35 ?_;refine dv 36 ?_
   refine cM 37 ([.v (.int .i64 (cA fK (1)).y)]) (aP (f:=(dQ false)) (z:=14) (o:=1) (lF false) (iS (by omega)) (Nat.le_of_ble_eq_true rfl) rfl) ?_
   refine dv 38 ?_;refine df 39 ?_;refine df 40 ?_;refine WD.split (t:=105) rfl rfl (fun h8=>?_) (fun h8=>?_)
   ·refine dv 41 ?_;refine aI 42 ?_;refine dv 43 ?_;refine dv 44 ?_
    refine cM 45 ((Fr4.of (cA fK (1)).n).tr false) (aP (f:=(dQ false)) (z:=14) (o:=2) (lF false) (iS (by omega)) (Nat.le_of_ble_eq_true rfl) rfl) ?_
    refine aF 46 rfl (yF (n:=18) (d:=1) (by omega) (by omega) (by omega) (by omega)) yG ⟨a1 rfl,a1 rfl,rfl⟩ (qF (.of (Rat.divInt 18 1))) ?_
    refine aF 47 rfl (uR (p:=(cA fK (1)).n) (q:=(Rat.divInt 18 1)) ((eV (n:=18) (d:=1) (by omega) (by omega) (by omega) (by omega)).mono (by omega)) (by decide+kernel)) tO ⟨aB rfl,aB rfl,rfl⟩ (.one (tv (.bool true))) ?_
    refine df 48 ?_;refine df 49 ?_;refine dv 50 ?_;refine aI 51 ?_;refine dv 52 ?_;refine dv 53 ?_
    refine cM 54 ([.v (.int .i64 (cA fK (2)).y)]) (aP (f:=(dQ false)) (z:=14) (o:=1) (lF false) (iS (by omega)) (Nat.le_of_ble_eq_true rfl) rfl) ?_
    refine dv 55 ?_;refine df 56 ?_;refine df 57 ?_;refine WD.split (t:=122) rfl rfl (fun h9=>?_) (fun h9=>?_)
    ·refine dv 58 ?_;refine aI 59 ?_;refine dv 60 ?_;refine dv 61 ?_
     refine cM 62 ((Fr4.of (cA fK (2)).n).tr false) (aP (f:=(dQ false)) (z:=14) (o:=2) (lF false) (iS (by omega)) (Nat.le_of_ble_eq_true rfl) rfl) ?_
     refine aF 63 rfl (yF (n:=2) (d:=1) (by omega) (by omega) (by omega) (by omega)) yG ⟨a1 rfl,a1 rfl,rfl⟩ (qF (.of (Rat.divInt 2 1))) ?_
     refine aF 64 rfl (uR (p:=(cA fK (2)).n) (q:=(Rat.divInt 2 1)) ((eV (n:=2) (d:=1) (by omega) (by omega) (by omega) (by omega)).mono (by omega)) (by decide+kernel)) tO ⟨aB rfl,aB rfl,rfl⟩ (.one (tv (.bool true))) ?_
     refine df 65 ?_;refine df 66 ?_;refine dv 67 ?_;refine aI 68 ?_;refine dv 69 ?_;refine dv 70 ?_
     refine cM 71 ((Fr4.of (aD (dJ gT) (0)).e).tr false) (aP (f:=(cE false)) (z:=24) (o:=16) (dX false) (iZ (by omega)) (Nat.le_of_ble_eq_true rfl) rfl) ?_
     refine aF 72 rfl (yF (n:=10) (d:=1) (by omega) (by omega) (by omega) (by omega)) yG ⟨a1 rfl,a1 rfl,rfl⟩ (qF (.of (Rat.divInt 10 1))) ?_
     refine aF 73 rfl (uR (p:=(aD (dJ gT) (0)).e) (q:=(Rat.divInt 10 1)) ((eV (n:=10) (d:=1) (by omega) (by omega) (by omega) (by omega)).mono (by omega)) SV) tO ⟨aB rfl,aB rfl,rfl⟩ (.one (tv (.bool true))) ?_
     refine df 74 ?_;refine cR 75 (by kernel_rfl) rfl rfl aA rfl (by trivial) ?_ (fun h=>by first | rfl | cases h)
     refine aJ ?_;refine rt ?_;exact en (.inl rfl) rfl (aO (bL _)) (by decide) (fun _=>trivial) rfl
    exact absurd (by decide+kernel) h9
   exact absurd (by decide+kernel) h8
  exact absurd (by decide+kernel) h7
 exact absurd (by decide+kernel) h6
section
variable {α:Type}
end
section
variable {x:Cx}{g:Nat→FV}{ob:List (Option Ob)}
end
section
variable {α:Type}{f:α→List Tr}{z o k:Nat}{xs:List α}{y y':α}{us us':List Tr}{mid:List AV}
def FC (sp:α→α) (xs:List α) (i:Nat):List α:=(xs.take i).map sp++xs.drop i
variable {sp:α→α}{i:Nat}
end
def FD (a:Fr4):Fr4:=⟨a.s,List.replicate a.x.length 77,a.t,List.replicate a.y.length 77⟩
def U5:Type:=Int×Int×Fr4×Fr4×Fr4
def BU (u:Us):U5:=(u.v,u.y,.of u.n,.of u.p,.of u.q)
def OF (u:U5):List Tr:=.v (.int .i64 u.1)::.v (.int .i64 u.2.1)::(u.2.2.1.tr true++(u.2.2.2.1.tr true++u.2.2.2.2.tr true))
def OG (u:U5):U5:=(u.1,u.2.1,FD u.2.2.1,u.2.2.2.1,u.2.2.2.2)
def VE (u:U5):U5:=(u.1,u.2.1,u.2.2.1,u.2.2.2.1,FD u.2.2.2.2)
def R6:Type:=Fr4×Fr4×Fr4×Fr4×Fr4×Fr4
def BV (r:Rw):R6:=(.of r.l,.of r.m,.of r.u,.of r.t,.of r.e,.of r.c)
def OH (r:R6):List Tr:=r.1.tr true++(r.2.1.tr true++(r.2.2.1.tr true++(r.2.2.2.1.tr true++(r.2.2.2.2.1.tr true++r.2.2.2.2.2.tr true))))
def OI (r:R6):R6:=(FD r.1,r.2.1,r.2.2.1,r.2.2.2.1,r.2.2.2.2.1,r.2.2.2.2.2)
def VF (r:R6):R6:=(r.1,r.2.1,FD r.2.2.1,r.2.2.2.1,r.2.2.2.2.1,r.2.2.2.2.2)
def u0 (us:List Us) (i:Nat):List AV:=((FC (fun u=>VE (OG u)) (us.map BU) i).flatMap OF).map .t
def u1 (us:List Us) (i:Nat):List AV:=(((FC (fun u=>VE (OG u)) (us.map BU) i).set i (OG (BU (cA us i)))).flatMap OF).map .t
def r0 (rs:List Rw) (i:Nat):List AV:=((FC (fun r=>VF (OI r)) (rs.map BV) i).flatMap OH).map .t
def r1 (rs:List Rw) (i:Nat):List AV:=(((FC (fun r=>VF (OI r)) (rs.map BV) i).set i (OI (BV (aD rs i)))).flatMap OH).map .t
section
variable {us:List Us}{rs:List Rw}{i k1 k2:Nat}
variable {l:List AV}{o:Nat}{a:Fr4}
end
theorem Xe {ys:List (Fr4×Fr4)}{k:Nat}(h:k<ys.length):ys.take (k+1)=ys.take k++[bX ys k]:=by
 rw[List.take_add_one,fA h]
 rfl
theorem SW {c:Fr4}{bk fw:Int}(hc:c.len 1099511627776):aE false Tryz.prog 15 [] [.agg ((c.tr false++[.v (.int .i64 bk),.v (.int .i64 fw)]:List Tr).map .t)] (aN (.agg ((c.tr false++[.v (.int .i64 bk),.v (.int .i64 fw)]:List Tr).map .t))):=by
 refine bC Tryz.func15 rfl Tryz.ntmps15 rfl aA rfl fun N w c0 h0=>?_
 refine sq ?_;refine rl ?_;refine bx 0 ?_;refine al 1 ?_;refine nl ?_;refine sq ?_;refine rd [0,1] (fun i=>[8].contains i) mixed ?_
 refine dv 0 ?_;refine aI 1 ?_;refine dv 3 ?_;refine aI 4 ?_;refine dv 5 ?_;refine aI 6 ?_;refine aF 2 rfl (dP (a:=c) hc) iL ⟨aB rfl,rfl⟩ (qF c) ?_;refine df 7 ?_
 refine dst 8 ?_;refine aJ ?_;refine rt ?_
 exact en (.inl rfl) rfl (aO (.agg (.cons (.id rfl) (.cons (.id rfl) (.cons (.id rfl) (.cons (.id rfl) (.cons (.id rfl) (.cons (.id rfl) .nil)))))))) (by decide) (fun h=>by cases h) rfl
theorem Tv {ys:List (Fr4×Fr4)}(hys:∀y∈ys,y.1.len 1099511627776∧y.2.len 1099511627776) (hl:ys.length≤1073741822):aE false Tryz.prog 13 [] [.one (.t (fM ys))] (aN (.one (.t (.s true 72 8 ys.length (ys.flatMap bV))))):=by
 refine bC Tryz.func13 rfl Tryz.ntmps13 rfl aA rfl fun N w c0 h0=>?_
 refine sq ?_;refine rl ?_;refine o1 ?_;refine nl ?_;refine sq ?_;refine rl ?_;refine o1 ?_;refine nl ?_;refine sq ?_;refine sq ?_;refine rl ?_;refine o1 ?_;refine nl ?_;refine bl ?_
 refine lp (γ:=Nat) (fun k=>bS [(0,.one (.t (fM ys))),(3,.one (.sl 0 0 k)),(4,.one (tv (.int .i64 ((k:Nat):Int))))]) (fun k=>[(⟨72,8,((ys.take k).flatMap bV).map .t⟩:Ob)].map some) (fun k=>k≤ys.length) (fun k=>ys.length-k) 0 (Nat.zero_le _) ((nr (i:=3) 0 72 8 rfl rfl rfl rfl).trans (aG h0 [0] _ _ (by decide) ⟨rfl,rfl,rfl,trivial⟩ ⟨aQ rfl,rfl⟩)) fun k hk=>?_
 refine sq ?_;refine sq ?_;refine rl ?_;(iterate 4 refine o1 ?_);refine nl ?_;refine bP rfl (fun h1=>?_) (fun h1=>?_)
 ·refine sk ?_;refine sq ?_;refine bl ?_;refine rd [] (fun i=>[16].contains i) mixed ?_
  refine dv 0 ?_;refine dv 1 ?_;refine dv 2 ?_;refine dv 3 ?_;refine dv 4 ?_
  refine cM 5 ((bX ys (k)).1.tr false) (aP (f:=bV) (z:=8) (o:=0) cV (fA (by omega)) (Nat.le_of_ble_eq_true rfl) rfl) ?_
  refine dv 7 ?_;refine dv 8 ?_;refine dv 9 ?_;refine dv 10 ?_
  refine cM 11 ((bX ys (k)).2.tr false) (aP (f:=bV) (z:=8) (o:=4) cV (fA (by omega)) (Nat.le_of_ble_eq_true rfl) rfl) ?_
  refine aF 6 rfl (dP (a:=(bX ys (k)).1) (hys _ (iR (by omega))).1) iL ⟨aB rfl,rfl⟩ (qF (bX ys (k)).1) ?_
  refine aF 12 rfl (dP (a:=(bX ys (k)).2) (hys _ (iR (by omega))).2) iL ⟨aB rfl,rfl⟩ (qF (bX ys (k)).2) ?_
  refine df 13 ?_;refine eZ (key:=1) 14 (by kernel_rfl) rfl rfl aA rfl trivial ?_
  refine nU (j:=2) (n:=k) (l:=((ys.take k).flatMap bV).map .t) 15 rfl aA rfl rfl rfl (.sl rfl (by rw[List.length_map,yH,List.length_take,Nat.min_eq_left (by omega)])) (.sl rfl rfl rfl) rfl rfl (by omega) (by omega) rfl trivial rfl (by kernel_rfl) rfl ?_
  refine cR 16 (by kernel_rfl) rfl rfl aA rfl (by trivial) ?_ (fun h=>by first | rfl | cases h)
  refine aJ ?_;refine rl ?_;refine o1 ?_;refine o1 ?_;refine WL.cast (t:=10) (u':=.int .i64 ((k+1:Nat):Int)) rfl (aH (by omega)) ?_
  refine o1 ?_;refine nl ?_
  have hst:((ys.take k).flatMap bV).map AV.t++(bV (bX ys k)).map .t=((ys.take (k+1)).flatMap bV).map .t:=by rw[Xe (by omega),List.flatMap_append,List.map_append];simp
  exact⟨k+1,by omega,by omega,aG h0 [2] _ _ (by decide) ⟨rfl,rfl,rfl,trivial⟩ ⟨aQ (congrArg (fun l:List AV=>some (⟨72,8,l⟩:Ob)) hst),rfl⟩⟩
 refine ex ?_;refine sq ?_;refine rl ?_;refine o1 ?_;refine o1 ?_;refine nl ?_;refine rt ?_;have hkk:ys.take k=ys:=List.take_of_length_le (by omega)
 have hkn:k=ys.length:=by omega
 exact en (.inl rfl) rfl (aO (.one (.sl (trs:=(ys.take k).flatMap bV) rfl rfl (cC _ _ (by rw[yH,List.length_take,Nat.min_eq_left (by omega)])) (by rw[yH,List.length_take,Nat.min_eq_left (by omega)])))) (by decide) (fun h=>by cases h) (by rw[hkk,hkn];rfl)
theorem IN {rs:List Rf}{us:List Uf}(hJ:JOk rs us):aE false Tryz.prog 11 [] [.agg (([gS rs,kI us]:List Tr).map .t)] (aN (.agg [.t (kA true rs),.t (kB true us)])):=by
 refine bC Tryz.func11 rfl Tryz.ntmps11 rfl aA rfl fun N w c0 h0=>?_
 have hl:=hJ.rl;have hlu:=hJ.ul
 refine sq ?_;refine rl ?_;refine bx 0 ?_;refine al 1 ?_;refine nl ?_;refine sq ?_;refine rl ?_;refine al 2 ?_;refine nl ?_;refine sq ?_;refine sq ?_
 refine WP.sub ((Wa (j:=2) (key:=3) (e:=68) (z:=24) rfl rfl rfl (.sl (.id .nil))).trans (Wa (j:=2) (key:=4) (e:=51) (z:=14) rfl rfl rfl (.id (.sl .nil)))) ?_;refine rl ?_
 refine o1 ?_;refine nl ?_;refine bl ?_
 refine lp (γ:=Nat) (fun k=>bS [(1,.one (.pt 0 0)),(2,.one (.pt 1 0)),(3,.one (.pt 2 0)),(4,.one (tv (.int .i64 ((k:Nat):Int))))]) (fun k=>[(⟨35,0,[.t (gS rs),.t (kI us)]⟩:Ob),⟨42,0,[tv (.slice none 0 0),tv (.slice none 0 0)]⟩,⟨42,0,[.sl 3 0 (k),.sl 4 0 0]⟩,⟨68,24,xW (rs.take k)⟩,⟨51,14,xX []⟩].map some) (fun k=>k≤rs.length) (fun k=>rs.length-k) 0 (Nat.zero_le _) (aG h0 [0,1,2,3,4] _ _ (by decide) ⟨rfl,rfl,rfl,rfl,trivial⟩ ⟨oe rfl rfl,oe rfl rfl,oe rfl rfl,aQ rfl,aQ rfl,rfl⟩) fun k hk=>?_
 refine sq ?_;refine sq ?_;refine rl ?_;refine o1 ?_;refine o1 ?_;refine ld ?_;refine o1 ?_;refine o1 ?_;refine nl ?_;refine bP rfl (fun h1=>?_) (fun h1=>?_)
 ·refine sk ?_;refine sq ?_;refine bl ?_;refine sq ?_;refine rl ?_;refine o1 ?_;refine ld ?_;refine o1 ?_;refine o1 ?_
  refine cW ((jR false) (aR rs (k))) (aP (f:=(jR false)) (z:=24) (o:=0) (jL false) (iC (rs:=rs) (k:=k) (by omega)) (Nat.le_of_ble_eq_true rfl) rfl) ?_
  refine al 5 ?_;refine st ?_;refine nl ?_;refine rd [0,1,2,5] (fun i=>[24].contains i) mixed ?_
  refine dv 0 ?_;refine aI 1 ?_;refine dv 2 ?_;refine aI 3 ?_;refine dv 5 ?_;refine aI 6 ?_;refine dv 8 ?_;refine aI 9 ?_;refine dv 11 ?_;refine aI 12 ?_;refine dv 14 ?_
  refine aI 15 ?_;refine dv 17 ?_;refine aI 18 ?_
  refine aF 4 rfl (dP (a:=(aR rs (k)).l) (hJ.r _ (aT (rs:=rs) (k:=k) (by omega))).1.2.2) iL ⟨aB rfl,rfl⟩ (qF (aR rs (k)).l) ?_
  refine aF 7 rfl (dP (a:=(aR rs (k)).m) (hJ.r _ (aT (rs:=rs) (k:=k) (by omega))).2.1.2.2) iL ⟨aB rfl,rfl⟩ (qF (aR rs (k)).m) ?_
  refine aF 10 rfl (dP (a:=(aR rs (k)).u) (hJ.r _ (aT (rs:=rs) (k:=k) (by omega))).2.2.1.2.2) iL ⟨aB rfl,rfl⟩ (qF (aR rs (k)).u) ?_
  refine aF 13 rfl (dP (a:=(aR rs (k)).t) (hJ.r _ (aT (rs:=rs) (k:=k) (by omega))).2.2.2.1.2.2) iL ⟨aB rfl,rfl⟩ (qF (aR rs (k)).t) ?_
  refine aF 16 rfl (dP (a:=(aR rs (k)).e) (hJ.r _ (aT (rs:=rs) (k:=k) (by omega))).2.2.2.2.1.2.2) iL ⟨aB rfl,rfl⟩ (qF (aR rs (k)).e) ?_
  refine aF 19 rfl (dP (a:=(aR rs (k)).c) (hJ.r _ (aT (rs:=rs) (k:=k) (by omega))).2.2.2.2.2.2.2) iL ⟨aB rfl,rfl⟩ (qF (aR rs (k)).c) ?_
  refine df 20 ?_;refine eZ (key:=6) 21 (by kernel_rfl) rfl rfl aA rfl ⟨rfl,rfl,rfl,rfl,trivial⟩ ?_
  refine nU (j:=7) (n:=k) (l:=xW (rs.take k)) 22 rfl aA rfl rfl rfl (.sl rfl (by rw[AQ,List.length_take,Nat.min_eq_left (by omega)])) (.sl rfl rfl rfl) rfl rfl (by omega) (by omega) rfl ⟨rfl,rfl,rfl,rfl,trivial⟩ rfl (by kernel_rfl) rfl ?_
  refine dv 23 ?_;refine dst 24 ?_;refine aJ ?_;refine rl ?_;refine o1 ?_;refine o1 ?_;refine WL.cast (t:=14) (u':=.int .i64 ((k+1:Nat):Int)) rfl (aH (by omega)) ?_
  refine o1 ?_;refine nl ?_
  exact⟨k+1,by omega,by omega,aG h0 [0,1,2,7,4] _ _ (by decide) ⟨rfl,rfl,rfl,rfl,trivial⟩ ⟨oe rfl rfl,oe rfl rfl,oe rfl rfl,aQ (congrArg (fun l:List AV=>some (⟨68,24,l⟩:Ob)) ((Wj _ _).trans (congrArg xW (Wi (by omega)).symm))),aQ rfl,rfl⟩⟩
 refine ex ?_;refine sq ?_;refine sq ?_;refine rl ?_;refine o1 ?_;refine nl ?_;refine bl ?_
 refine lp (γ:=Nat) (fun k=>bS [(1,.one (.pt 0 0)),(2,.one (.pt 1 0)),(3,.one (.pt 2 0)),(6,.one (tv (.int .i64 ((k:Nat):Int))))]) (fun k=>[(⟨35,0,[.t (gS rs),.t (kI us)]⟩:Ob),⟨42,0,[tv (.slice none 0 0),tv (.slice none 0 0)]⟩,⟨42,0,[.sl 3 0 rs.length,.sl 4 0 (k)]⟩,⟨68,24,xW rs⟩,⟨51,14,xX (us.take k)⟩].map some) (fun k=>k≤us.length) (fun k=>us.length-k) 0 (Nat.zero_le _) (aG h0 [0,1,2,3,4] _ _ (by decide) ⟨rfl,rfl,rfl,rfl,trivial⟩ ⟨oe rfl rfl,oe rfl rfl,oe rfl (congrArg (fun n=>some (⟨42,0,[.sl 3 0 n,.sl 4 0 0]⟩:Ob)) (show k=rs.length by omega)),aQ (congrArg (fun l:List Rf=>some (⟨68,24,(l.flatMap (jR false)).map .t⟩:Ob)) (show rs.take k=rs from List.take_of_length_le (by omega))),aQ rfl,rfl⟩) fun k2 hk2=>?_
 refine sq ?_;refine sq ?_;refine rl ?_;refine o1 ?_;refine o1 ?_;refine ld ?_;refine o1 ?_;refine o1 ?_;refine nl ?_;refine bP rfl (fun h2=>?_) (fun h2=>?_)
 ·refine sk ?_;refine sq ?_;refine bl ?_;refine sq ?_;refine rl ?_;refine o1 ?_;refine ld ?_;refine o1 ?_;refine o1 ?_
  refine cW ((fR false) (bZ us (k2))) (aP (f:=(fR false)) (z:=14) (o:=0) (fE false) (dS (us:=us) (k:=k2) (by omega)) (Nat.le_of_ble_eq_true rfl) rfl) ?_
  refine al 5 ?_;refine st ?_;refine nl ?_;refine rd [0,1,2,5] (fun i=>[19].contains i) mixed ?_
  refine dv 0 ?_;refine aI 1 ?_;refine dv 2 ?_;refine aI 3 ?_;refine dv 4 ?_;refine aI 5 ?_;refine dv 6 ?_;refine aI 7 ?_;refine dv 9 ?_;refine aI 10 ?_;refine dv 12 ?_
  refine aI 13 ?_;refine aF 8 rfl (dP (a:=(bZ us (k2)).n) (hJ.u _ (dZ (us:=us) (k:=k2) (by omega))).1.2.2) iL ⟨aB rfl,rfl⟩ (qF (bZ us (k2)).n) ?_
  refine aF 11 rfl (dP (a:=(bZ us (k2)).p) (hJ.u _ (dZ (us:=us) (k:=k2) (by omega))).2.1.2.2) iL ⟨aB rfl,rfl⟩ (qF (bZ us (k2)).p) ?_
  refine aF 14 rfl (dP (a:=(bZ us (k2)).q) (hJ.u _ (dZ (us:=us) (k:=k2) (by omega))).2.2.2.2) iL ⟨aB rfl,rfl⟩ (qF (bZ us (k2)).q) ?_
  refine df 15 ?_;refine eZ (key:=6) 16 (by kernel_rfl) rfl rfl aA rfl ⟨rfl,rfl,rfl,rfl,trivial⟩ ?_
  refine nU (j:=7) (n:=k2) (l:=xX (us.take k2)) 17 rfl aA rfl rfl rfl (.sl rfl (by rw[AS,List.length_take,Nat.min_eq_left (by omega)])) (.sl rfl rfl rfl) rfl rfl (by omega) (by omega) rfl ⟨rfl,rfl,rfl,rfl,trivial⟩ rfl (by kernel_rfl) rfl ?_
  refine dv 18 ?_;refine dst 19 ?_;refine aJ ?_;refine rl ?_;refine o1 ?_;refine o1 ?_;refine WL.cast (t:=50) (u':=.int .i64 ((k2+1:Nat):Int)) rfl (aH (by omega)) ?_
  refine o1 ?_;refine nl ?_
  exact⟨k2+1,by omega,by omega,aG h0 [0,1,2,3,7] _ _ (by decide) ⟨rfl,rfl,rfl,rfl,trivial⟩ ⟨oe rfl rfl,oe rfl rfl,oe rfl rfl,aQ rfl,aQ (congrArg (fun l:List AV=>some (⟨51,14,l⟩:Ob)) ((Wk _ _).trans (congrArg xX (Dq (by omega)).symm))),rfl⟩⟩
 refine ex ?_;refine sq ?_;refine rl ?_;refine ld ?_;refine st ?_;refine nl ?_;refine rt ?_;have hk9:k2=us.length:=by omega
 exact en (.inl rfl) rfl (aO (.agg (.cons (.sl (trs:=rs.flatMap (jR false)) rfl rfl (cC _ _ (Te _)) (Te _)) (.cons (.sl (trs:=(us.take k2).flatMap (fR false)) rfl rfl (cC _ _ (by rw[Td,List.length_take,Nat.min_eq_left (by omega)])) (by rw[Td,List.length_take,Nat.min_eq_left (by omega)])) .nil)))) (by decide) (fun h=>by cases h) (by rw[hk9,List.take_of_length_le (Nat.le_refl _)];rfl)
theorem BW {a:Fr4}(h:a.ok∧dR a=true):a.len 1099511627776:=by
 have h2:=h.2
 simp only[dR,Bool.and_eq_true,decide_eq_true_eq]at h2
 exact⟨by omega,by omega⟩
def iF (U:List Us) (dl:Us→Bool):Rat:=fS ((U.filter dl).map Us.n)
section
variable {M:Mx}{N n v y:Nat}{U V T:List Us}{P A B:List (Nat×Nat)}{p q:Nat×Nat}{dl dl':Us→Bool}
theorem Lo:∀(a b:List Rat),fS (a++b)=fS a+fS b
 | [],b=>by rw[List.nil_append];show _=0+_;grind
 | x::a,b=>by rw[List.cons_append,pO,Lo a b,pO,Rat.add_assoc]
theorem rS:iF (U++V) dl=iF U dl+iF V dl:=by unfold iF;rw[List.filter_append,List.map_append,Lo]
theorem Ga:∀{U:List Us},(∀u∈U,0<u.n)→(∀u∈U,dl u=true→dl' u=true)→iF U dl≤iF U dl'
 | [],_,_=>Rat.le_refl
 | u::U,h,h2=>by
  have ih:=Ga (U:=U) (fun x hx=>h x (List.mem_cons_of_mem _ hx)) (fun x hx=>h2 x (List.mem_cons_of_mem _ hx))
  have hn:=h u (List.mem_cons_self ..)
  have hd:=h2 u (List.mem_cons_self ..)
  unfold iF at*
  by_cases h1:dl u=true
  ·rw[List.filter_cons_of_pos h1,List.filter_cons_of_pos (hd h1),List.map_cons,List.map_cons,pO,pO];grind
  rw[List.filter_cons_of_neg h1]
  by_cases h3:dl' u=true
  ·rw[List.filter_cons_of_pos h3,List.map_cons,pO];grind
  rw[List.filter_cons_of_neg h3];exact ih
theorem yI (h:∀u∈U,dl u=false):iF U dl=0:=by
 have e:U.filter dl=[]:=by rw[List.filter_eq_nil_iff];exact fun u hu=>by rw[h u hu];decide
 unfold iF
 rw[e]
 rfl
theorem Qi (h:∀u∈U,0<u.n):0≤iF U dl:=by
 have h1:=Ga (dl:=fun _=>false) (dl':=dl) h (fun u _ h=>by cases h)
 rwa[yI (fun _ _=>rfl)]at h1
theorem Xf (h:∀u∈U,dl u=dl' u):iF U dl=iF U dl':=by unfold iF;rw[List.filter_congr h]
theorem Eb (dl:Uf→Bool):cI (U.map gI) dl=iF U fun u=>dl (gI u):=by
 unfold cI iF
 rw[List.filter_map,List.map_map]
 congr 1
 exact List.map_congr_left fun u _=>Fr4.q_of u.n
def fo (M:Mx) (U:List Us) (P:List (Nat×Nat)):List Us:=P.foldl (fun U p=>M.use U p.1 p.2) U
theorem Lp:fo M U (A++B)=fo M (fo M U A) B:=List.foldl_append ..
def Hz (M:Mx) (y:Nat):List (Nat×Nat):=if M.inc y<0 then(List.range' (y-M.b) (y-(y-M.b))).map (fun x=>(y,x))else(List.range' (y-M.w) (y-(y-M.w))).map (fun v=>(v,y))
def Ec (M:Mx):Nat→List (Nat×Nat)
 | 0=>[]
 | y+1=>Ec M y++Hz M y
theorem Lq:M.run n=fo M [] (Ec M n):=by
 induction n with
 | zero=>rfl
 | succ n ih=>
  show M.step (M.run n) n=fo M [] (Ec M n++Hz M n)
  rw[Lp,←ih]
  unfold Mx.step fo Hz
  split
  ·rw[List.foldl_map];rfl
  rw[List.foldl_map];rfl
theorem Qj (h:p∈Hz M y):(p.1=y∧p.2<y∧y≤p.2+M.b)∨(p.2=y∧p.1<y∧y≤p.1+M.w):=by
 unfold Hz at h
 split at h
 ·obtain⟨x,hx,rfl⟩:=List.mem_map.1 h
  rw[List.mem_range'_1]at hx
  exact .inl ⟨rfl,by dsimp only;omega,by dsimp only;omega⟩
 obtain⟨x,hx,rfl⟩:=List.mem_map.1 h
 rw[List.mem_range'_1]at hx
 exact .inr ⟨rfl,by dsimp only;omega,by dsimp only;omega⟩
theorem Gb (h:p∈Ec M n):p.1<n∧p.2<n∧p.1≠p.2∧p.1≤p.2+M.b∧p.2≤p.1+M.w:=by
 induction n with
 | zero=>cases h
 | succ n ih=>
  rcases List.mem_append.1 h with h | h
  ·have:=ih h;omega
  have:=Qj h;omega
theorem OJ (hv:v<n) (hy:y<n) (h1:M.inc v<0) (h2:0<M.inc y) (h3:v≤y+M.b) (h4:y≤v+M.w):(v,y)∈Ec M n:=by
 induction n with
 | zero=>omega
 | succ n ih=>
  refine List.mem_append.2 ?_
  by_cases h:v<n∧y<n
  ·exact .inl (ih h.1 h.2)
  have hne:v≠y:=fun e=>by subst e;grind
  refine .inr ?_
  unfold Hz
  by_cases hvn:v=n
  ·subst hvn
   rw[if_pos h1]
   exact List.mem_map.2 ⟨y,by rw[List.mem_range'_1];omega,rfl⟩
  have:y=n:=by omega
  subst this
  rw[if_neg (by grind)]
  exact List.mem_map.2 ⟨v,by rw[List.mem_range'_1];omega,rfl⟩
def Ahead (p q:Nat×Nat):Prop:=max p.1 p.2≤max q.1 q.2∧(p.1=q.1→p.2<q.2)∧(p.2=q.2→p.1<p.2→q.1<q.2→p.1<q.1)
theorem OK:(Hz M y).Pairwise Ahead:=by
 unfold Hz
 split
 ·rw[List.pairwise_map]
  refine(List.pairwise_lt_range' (s:=y-M.b) (n:=y-(y-M.b)) (step:=1)).imp_of_mem ?_
  intro a b ha hb h
  rw[List.mem_range'_1]at ha hb
  refine⟨?_,fun _=>h,fun e=>?_⟩ <;> dsimp only at* <;> omega
 rw[List.pairwise_map]
 refine(List.pairwise_lt_range' (s:=y-M.w) (n:=y-(y-M.w)) (step:=1)).imp_of_mem ?_
 intro a b ha hb h
 rw[List.mem_range'_1]at ha hb
 refine⟨?_,fun e=>?_,fun _ _ _=>h⟩ <;> dsimp only at* <;> omega
theorem OL:(Ec M n).Pairwise Ahead:=by
 induction n with
 | zero=>exact .nil
 | succ n ih=>
  refine List.pairwise_append.2 ⟨ih,OK,fun p hp q hq=>?_⟩
  have h1:=Gb hp
  have h2:=Qj hq
  refine⟨?_,?_,?_⟩ <;> omega
theorem yJ:∃T,fo M U P=U++T∧∀u∈T,∃A p B,P=A++p::B∧u.v=(p.1:Int)∧u.y=(p.2:Int)∧0<u.n∧u.n≤M.left (fo M U A) p.1∧u.n≤M.room (fo M U A) p.2∧u.p=M.tax (fo M U A) p.2∧u.q=u.p-u.n:=by
 induction P generalizing U with
 | nil=>exact⟨[],by simp[fo],fun u hu=>by cases hu⟩
 | cons p P ih=>
  obtain⟨T,e,h⟩:=ih (U:=M.use U p.1 p.2)
  have e1:fo M U (p::P)=fo M (M.use U p.1 p.2) P:=rfl
  have ht:∀u∈T,∃A p' B,p::P=A++p'::B∧u.v=(p'.1:Int)∧u.y=(p'.2:Int)∧0<u.n∧u.n≤M.left (fo M U A) p'.1∧u.n≤M.room (fo M U A) p'.2∧u.p=M.tax (fo M U A) p'.2∧u.q=u.p-u.n:=fun u hu=>by
   obtain⟨A,p',B,h1,h2⟩:=h u hu
   exact⟨p::A,p',B,by rw[h1];rfl,h2⟩
  by_cases hp:0<aZ (M.left U p.1) [M.room U p.2]
  ·refine⟨⟨p.1,p.2,aZ (M.left U p.1) [M.room U p.2],M.tax U p.2,M.tax U p.2-aZ (M.left U p.1) [M.room U p.2]⟩::T,?_,fun u hu=>?_⟩
   ·rw[e1,e,mG hp]
    simp[Mx.app]
   rcases List.mem_cons.1 hu with rfl | hu
   ·exact⟨[],p,P,rfl,rfl,rfl,hp,oU _ _,nI _ _,rfl,rfl⟩
   exact ht u hu
  exact⟨T,by rw[e1,e,lX hp],ht⟩
theorem SX (hP:∀p∈P,p.1<N∧p.2<N) (hI:M.Iv N U):M.Iv N (fo M U P):=by
 induction P generalizing U with
 | nil=>exact hI
 | cons p P ih=>exact ih (fun q hq=>hP q (List.mem_cons_of_mem _ hq)) (hI.use (hP p (List.mem_cons_self ..)).1 (hP p (List.mem_cons_self ..)).2)
theorem Xg (hOk:M.Ok N) (h:Ec M N=A++B):M.Iv N (fo M [] A):=SX (fun p hp=>by have:=Gb (M:=M) (n:=N) (p:=p) (by rw[h];exact List.mem_append_left _ hp);exact⟨this.1,this.2.1⟩) (.nil hOk)
theorem Qk (hOk:M.Ok N){u:Us}(hu:u∈M.run N):∃A p B,Ec M N=A++p::B∧u.v=(p.1:Int)∧u.y=(p.2:Int)∧0<u.n∧u.n≤M.left (fo M [] A) p.1∧u.n≤M.room (fo M [] A) p.2∧u.p=M.tax (fo M [] A) p.2∧u.q=u.p-u.n:=by
 obtain⟨T,e,h⟩:=yJ (M:=M) (U:=[]) (P:=Ec M N)
 rw[Lq,e]at hu
 exact h u hu
theorem IP (h:0<M.los v):M.inc v<0:=by
 have:=Ql h
 unfold Mx.los at h
 rw[this]at h
 grind
theorem IQ (hOk:M.Ok N) (hy:y<N) (h:0<M.lim y):0<M.inc y:=by
 rcases Rat.le_total (a:=M.inc y) (b:=0)with h1 | h1
 ·have h2:abv (M.inc y)=0:=by rw[kZ];split <;> grind
  unfold Mx.lim at h
  rw[h2]at h
  grind
 rcases Rat.le_iff_lt_or_eq.1 h1 with h2 | h2
 ·exact h2
 have h2:abv (M.inc y)=0:=by rw[←h2];rfl
 unfold Mx.lim at h
 rw[h2]at h
 grind
theorem Gc (hI:M.Iv N U) (hy:y<N):M.room U y=M.lim y-(M.ring y+eH U y):=Gd hI hy
theorem Ed (hOk:M.Ok N){u:Us}(hu:u∈M.run N):(0≤u.v∧u.v<(N:Int)∧0≤u.y∧u.y<(N:Int)∧M.inc u.v.toNat<0∧0<M.inc u.y.toNat∧u.v-(M.b:Int)≤u.y∧u.y≤u.v+(M.w:Int))∧0<u.n∧0≤u.p∧0≤u.q:=by
 obtain⟨A,p,B,h,e1,e2,h0,h1,h2,h3,h4⟩:=Qk hOk hu
 have hm:=Gb (M:=M) (n:=N) (p:=p) (by rw[h];simp)
 have hI:=Xg hOk h
 have q1:=(hI.v p.1 hm.1).1
 have q2:=(hI.y p.2 hm.2.1).1
 have q3:=Gc hI hm.2.1
 have q4:=hOk.r0 p.2 hm.2.1
 have q5:=hI.tax_ge hOk hm.2.1
 have q6:=hOk.lim_le (y:=p.2)
 refine⟨⟨by omega,by omega,by omega,by omega,?_,?_,by omega,by omega⟩,h0,by rw[h3];exact q5,?_⟩
 ·rw[e1];exact IP (v:=p.1) (by grind)
 ·rw[e2];exact IQ hOk hm.2.1 (by grind)
 rw[h4,h3];unfold Mx.tax;grind
theorem BX (hOk:M.Ok N) (hv:v<N) (hy:y<N) (h1:M.inc v<0) (h2:0<M.inc y) (h3:v≤y+M.b) (h4:y≤v+M.w):
  0<iF (M.run N) (fun u=>decide (u.v=(v:Int))&&decide ((y:Int)<u.y))+M.left (M.run N) v→
  M.lim y≤iF (M.run N) (fun u=>decide (u.y=(y:Int))&&decide (max u.v (y:Int)≤max (v:Int) (y:Int)))+M.ring y∧∀u∈M.run N,u.y=(y:Int)→(v:Int)<u.v→u.v<(y:Int)→False:=by
 obtain⟨A,B,hP⟩:=List.append_of_mem (OJ hv hy h1 h2 h3 h4)
 have hpw:=OL (M:=M) (n:=N)
 rw[hP]at hpw
 obtain⟨_,pw2,pw3⟩:=List.pairwise_append.1 hpw
 have pwB:=(List.pairwise_cons.1 pw2).1
 have hI:=Xg hOk hP
 have eR:M.run N=fo M (M.use (fo M [] A) v y) B:=by rw[Lq,hP,Lp];rfl
 have e2:M.use (fo M [] A) v y=fo M [] (A++[(v,y)]):=by rw[Lp];rfl
 have hI2:M.Iv N (M.use (fo M [] A) v y):=hI.use hv hy
 generalize hU2:M.use (fo M [] A) v y=U2 at*
 obtain⟨T,eT,hT⟩:=yJ (M:=M) (U:=U2) (P:=B)
 obtain⟨S,eS,hS⟩:=yJ (M:=M) (U:=[]) (P:=A++[(v,y)])
 rw[←e2,List.nil_append]at eS
 subst eS
 have hS2:∀u∈U2,0<u.n∧∃p∈A++[(v,y)],u.v=(p.1:Int)∧u.y=(p.2:Int):=fun u hu=>by
  obtain⟨A',p,B',q1,q2,q3,q4,_⟩:=hS u hu
  exact⟨q4,p,by rw[q1];simp,q2,q3⟩
 have hT2:∀u∈T,0<u.n∧∃p∈B,u.v=(p.1:Int)∧u.y=(p.2:Int):=fun u hu=>by
  obtain⟨A',p,B',q1,q2,q3,q4,_⟩:=hT u hu
  exact⟨q4,p,by rw[q1];simp,q2,q3⟩
 rw[eR,eT]
 -- what is left
 have hz:M.left U2 v=0∨M.room U2 y=0:=by
  have g1:=(hI.v v hv).1.1
  have g2:=Ge (M:=M) (U:=fo M [] A) (y:=y)
  rw[←hU2]
  by_cases hp:0<aZ (M.left (fo M [] A) v) [M.room (fo M [] A) y]
  ·rw[mG hp,Ce,Cf hp (nI _ _),sW]
   split
   ·right;grind
   left;grind
  rw[lX hp]
  rw[sW]at hp
  split at hp
  ·right;grind
  left;grind
 have hr:iF (U2++T) (fun u=>decide (u.v=(v:Int))&&decide ((y:Int)<u.y))+M.left (U2++T) v=M.left U2 v:=by
  rw[rS,yI (U:=U2) (fun u hu=>by
   obtain⟨_,p,hp,q1,q2⟩:=hS2 u hu
   rw[Bool.and_eq_false_iff,decide_eq_false_iff_not,decide_eq_false_iff_not]
   rcases List.mem_append.1 hp with hp | hp
   ·have:=(pw3 p hp (v,y) (List.mem_cons_self ..)).2.1
    dsimp only at this
    omega
   ·rw[List.mem_singleton]at hp
    subst hp
    dsimp only at*
    omega),Xf (U:=T) (dl':=fun u=>decide (u.v=(v:Int))) (fun u hu=>by
   obtain⟨_,p,hp,q1,q2⟩:=hT2 u hu
   have:=(pwB p hp).2.1
   dsimp only at this
   by_cases e:u.v=(v:Int)
   ·rw[decide_eq_true e,decide_eq_true (show(y:Int)<u.y by omega)];rfl
   rw[decide_eq_false e];rfl)]
  have e3:uE (U2++T) v=uE U2 v+iF T fun u=>decide (u.v=(v:Int)):=rS
  unfold Mx.left
  rw[e3]
  grind
 rw[hr]
 intro hpos
 have hroom:M.room U2 y=0:=by
  rcases hz with h | h
  ·grind
  exact h
 refine⟨?_,fun u hu g1 g2 g3=>?_⟩
 ·have e4:=Gc hI2 hy
  have e5:eH U2 y≤iF U2 (fun u=>decide (u.y=(y:Int))&&decide (max u.v (y:Int)≤max (v:Int) (y:Int))):=Ga (fun u hu=>(hS2 u hu).1) fun u hu hd=>by
   obtain⟨_,p,hp,q1,q2⟩:=hS2 u hu
   rw[hd,Bool.true_and,decide_eq_true_eq]
   rw[decide_eq_true_eq]at hd
   rcases List.mem_append.1 hp with hp | hp
   ·have:=(pw3 p hp (v,y) (List.mem_cons_self ..)).1
    dsimp only at this
    omega
   rw[List.mem_singleton]at hp
   subst hp
   dsimp only at*
   omega
  have e6:=Qi (U:=T) (dl:=fun u=>decide (u.y=(y:Int))&&decide (max u.v (y:Int)≤max (v:Int) (y:Int))) (fun u hu=>(hT2 u hu).1)
  rw[rS]
  grind
 rcases List.mem_append.1 hu with hu | hu
 ·obtain⟨_,p,hp,q1,q2⟩:=hS2 u hu
  rcases List.mem_append.1 hp with hp | hp
  ·have:=(pw3 p hp (v,y) (List.mem_cons_self ..)).2.2
   dsimp only at this
   omega
  rw[List.mem_singleton]at hp
  subst hp
  dsimp only at*
  omega
 obtain⟨A',p,B',q1,q2,q3,q4,_,q5,_⟩:=hT u hu
 obtain⟨T',eT',hT'⟩:=yJ (M:=M) (U:=U2) (P:=A')
 have ep:p.2=y:=by omega
 rw[ep,eT']at q5
 have e7:eH (U2++T') y=eH U2 y+iF T' fun u=>decide (u.y=(y:Int)):=rS
 have e8:=Qi (U:=T') (dl:=fun u=>decide (u.y=(y:Int))) (fun u hu=>by obtain⟨_,_,_,_,_,_,q,_⟩:=hT' u hu;exact q)
 have e9:M.room (U2++T') y≤0:=by
  have e4:=Gc hI2 hy
  unfold Mx.room
  rw[e7,kZ]
  split
  ·grind
  grind
 grind
end
section
variable {M:Mx}{N n v y k:Nat}{U:List Us}{e c:Nat→Rat}
theorem rT (q:Rat):0<q.num.sign↔0<q:=by
 have h:=uH q 0
 rwa[show q-0=q by grind]at h
theorem BY {rs:List Rw}(h:k<rs.length):aR (rs.map gN) k=gN (aD rs k):=by simp[aR,aD,h]
theorem wG {q:Rat}(h:Sz 700 q):BF (.of q):=⟨(Qn.of h).1,by rw[Fr4.q_of];exact h,uI h⟩
theorem IR {rs:List Rw}{us:List Us}(hr:MM rs) (hu:UsOk us) (h1:rs.length≤10000) (h2:us.length≤10000):JOk (rs.map gN) (us.map gI):=by
 refine⟨fun r hm=>?_,fun u hm=>?_,by rwa[List.length_map],by rwa[List.length_map]⟩
 ·obtain⟨x,hx,rfl⟩:=List.mem_map.1 hm
  obtain⟨a1,a2,a3,a4,a5,a6⟩:=hr x hx
  exact⟨wG (a1.mono (by omega)),wG (a2.mono (by omega)),wG (a3.mono (by omega)),wG (a4.mono (by omega)),wG (a5.mono (by omega)),wG (a6.mono (by omega))⟩
 obtain⟨x,hx,rfl⟩:=List.mem_map.1 hm
 obtain⟨a1,a2,a3⟩:=hu x hx
 exact⟨wG a1,wG a2,wG a3⟩
theorem yK (h:y<N):aR ((M.rows U e c N).map gN) y=gN (M.row U e c y):=by rw[BY (by rw[cZ];exact h),iE h]
theorem IS:M.win N (v:Int) (y:Int)=true↔v<N∧y<N∧M.inc v<0∧0<M.inc y∧v≤y+M.b∧y≤v+M.w:=by
 simp only[Mx.win,Bool.and_eq_true,decide_eq_true_eq,Int.toNat_natCast,iQ,rT]
 constructor
 ·rintro⟨h1,h2,h3,h4,h5,h6,h7,h8⟩;exact⟨by omega,by omega,h5,h6,by omega,by omega⟩
 rintro⟨h1,h2,h3,h4,h5,h6⟩;exact⟨by omega,by omega,by omega,by omega,h3,h4,by omega,by omega⟩
theorem IT (h:v<N) (y:Int):Mx.remJ ((M.rows (M.run N) (M.ex N) (M.cl N) N).map gN) ((M.run N).map gI) (v:Int) y=iF (M.run N) (fun u=>decide (u.v=(v:Int))&&decide (y<u.y))+M.left (M.run N) v:=by
 have e1:M.ex N v+M.cl N v=M.left (M.run N) v:=by unfold Mx.ex Mx.cl;split <;> grind
 unfold Mx.remJ
 rw[Int.toNat_natCast,yK h,Eb]
 show _+(Fr4.of (M.ex N v)).q+(Fr4.of (M.cl N v)).q=_
 rw[Fr4.q_of,Fr4.q_of,Rat.add_assoc,e1]
 rfl
theorem Lr (hOk:M.Ok N) (hw:M.win N (v:Int) (y:Int)=true) (h:0<Mx.remJ ((M.rows (M.run N) (M.ex N) (M.cl N) N).map gN) ((M.run N).map gI) (v:Int) (y:Int)):
  M.lim y≤M.fulJ ((M.run N).map gI) (y:Int) (max (v:Int) (y:Int))∧∀u∈M.run N,u.y=(y:Int)→(v:Int)<u.v→u.v<(y:Int)→False:=by
 obtain⟨h1,h2,h3,h4,h5,h6⟩:=IS.1 hw
 rw[IT h1]at h
 obtain⟨g1,g2⟩:=BX hOk h1 h2 h3 h4 h5 h6 h
 refine⟨?_,g2⟩
 unfold Mx.fulJ
 rw[Eb,Int.toNat_natCast]
 exact g1
theorem Xh (hOk:M.Ok N):M.judge N ((M.rows (M.run N) (M.ex N) (M.cl N) N).map gN) ((M.run N).map gI)=true:=by
 have hI:=hOk.run (Nat.le_refl N)
 have hof:∀y:Nat,Mx.ofJ ((M.run N).map gI) y=uE (M.run N) y:=fun y=>Eb _
 have hin:∀y:Nat,Mx.inJ ((M.run N).map gI) y=eH (M.run N) y:=fun y=>Eb _
 unfold Mx.judge
 simp only[Bool.and_eq_true,List.all_eq_true,List.mem_range,decide_eq_true_eq]
 refine⟨by rw[List.length_map,cZ],fun y hy=>?_,fun u hu=>?_,fun y hy=>?_,fun y hy=>?_,fun v hv y hy=>?_,fun u hu=>?_⟩
 ·have e1:M.los y=abv (-(M.inc y)):=by unfold Mx.los;rw[show(0:Rat)-M.inc y=-(M.inc y) by grind]
  unfold Mx.rowJ
  rw[yK hy,Bool.and_eq_true,decide_eq_true_eq,decide_eq_true_eq]
  exact⟨(Fr4.q_of _).trans e1,Fr4.q_of _⟩
 ·obtain⟨x,hx,rfl⟩:=List.mem_map.1 hu
  obtain⟨⟨h1,h2,h3,h4,h5,h6,h7,h8⟩,g1,g2,g3⟩:=Ed hOk hx
  have hw:M.win N x.v x.y=true:=by
   simp only[Mx.win,Bool.and_eq_true,decide_eq_true_eq,iQ,rT]
   exact⟨h1,h2,h3,h4,h5,h6,h7,h8⟩
  have q1:=(rT _).2 g1
  have q2:¬x.p.num.sign<0:=fun h=>by have:=(iQ _).1 h;grind
  have q3:¬x.q.num.sign<0:=fun h=>by have:=(iQ _).1 h;grind
  unfold Mx.useJ gI
  simp only[Fr4.q_of,hw,Bool.true_and,Bool.and_eq_true,Bool.not_eq_true',decide_eq_false_iff_not]
  exact⟨by omega,q2,q3⟩
 ·have hl:=(hI.v y hy).1.1
  have e1:M.left (M.run N) y=M.los y-uE (M.run N) y:=rfl
  unfold Mx.vinJ Mx.vin5
  rw[yK hy,hof]
  have f1:(gN (M.row (M.run N) (M.ex N) (M.cl N) y)).l.q=M.los y:=Fr4.q_of _
  have f2:(gN (M.row (M.run N) (M.ex N) (M.cl N) y)).e.q=M.ex N y:=Fr4.q_of _
  have f3:(gN (M.row (M.run N) (M.ex N) (M.cl N) y)).c.q=M.cl N y:=Fr4.q_of _
  rw[f1,f2,f3]
  by_cases hlate:y+M.w<N
  ·have g1:M.ex N y=M.left (M.run N) y:=if_pos hlate
   have g2:M.cl N y=0:=if_pos hlate
   have g3:M.lateJ N y=true:=decide_eq_true (by omega)
   have g4:¬(M.left (M.run N) y).num.sign<0:=fun h=>by have:=(iQ _).1 h;grind
   rw[g1,g2,g3,decide_eq_false g4,decide_eq_true (show M.los y=uE (M.run N) y+M.left (M.run N) y+0 by grind)]
   rfl
  have g1:M.ex N y=0:=if_neg hlate
  have g2:M.cl N y=M.left (M.run N) y:=if_neg hlate
  have g3:M.lateJ N y=false:=decide_eq_false (by omega)
  have g4:¬(M.left (M.run N) y).num.sign<0:=fun h=>by have:=(iQ _).1 h;grind
  rw[g1,g2,g3,decide_eq_false g4,decide_eq_true (show M.los y=uE (M.run N) y+0+M.left (M.run N) y by grind)]
  rfl
 ·have hl:=(hI.y y hy).1.2
  unfold Mx.capJ
  rw[yK hy,hin]
  have f1:(gN (M.row (M.run N) (M.ex N) (M.cl N) y)).u.q=eH (M.run N) y:=Fr4.q_of _
  have f2:(gN (M.row (M.run N) (M.ex N) (M.cl N) y)).m.q=M.lim y:=Fr4.q_of _
  have f3:(gN (M.row (M.run N) (M.ex N) (M.cl N) y)).t.q=M.tax (M.run N) y:=Fr4.q_of _
  have g1:¬0<(eH (M.run N) y+M.ring y-M.lim y).num.sign:=fun h=>by have:=(uH _ _).1 h;grind
  rw[f1,f2,f3,decide_eq_true rfl,decide_eq_false g1,decide_eq_true (show M.tax (M.run N) y=abv (M.inc y)-(eH (M.run N) y+M.ring y) by unfold Mx.tax;grind)]
  rfl
 ·unfold Mx.spentJ
  cases hw:M.win N (v:Int) (y:Int)with
  | false=>rfl
  | true=>
   by_cases hr:0<Mx.remJ ((M.rows (M.run N) (M.ex N) (M.cl N) N).map gN) ((M.run N).map gI) (v:Int) (y:Int)
   ·have h1:=(Lr hOk hw hr).1
    have f2:(aR ((M.rows (M.run N) (M.ex N) (M.cl N) N).map gN) y).m.q=M.lim y:=by rw[yK hy];exact Fr4.q_of _
    rw[f2]
    have g1:¬(M.fulJ ((M.run N).map gI) (y:Int) (max (v:Int) (y:Int))-M.lim y).num.sign<0:=fun h=>by have:=(iQ _).1 h;grind
    rw[decide_eq_true (show 0≤(M.fulJ ((M.run N).map gI) (y:Int) (max (v:Int) (y:Int))-M.lim y).num.sign by omega)]
    simp
   have g1:¬0<(Mx.remJ ((M.rows (M.run N) (M.ex N) (M.cl N) N).map gN) ((M.run N).map gI) (v:Int) (y:Int)).num.sign:=fun h=>hr ((rT _).1 h)
   rw[decide_eq_true (show(Mx.remJ ((M.rows (M.run N) (M.ex N) (M.cl N) N).map gN) ((M.run N).map gI) (v:Int) (y:Int)).num.sign≤0 by omega)]
   rfl
 obtain⟨x,hx,rfl⟩:=List.mem_map.1 hu
 rw[Bool.not_eq_true',List.any_eq_false]
 intro v hv ho
 rw[List.mem_range]at hv
 simp only[Mx.oldJ,gI,Bool.and_eq_true,Bool.not_eq_true',decide_eq_true_eq,decide_eq_false_iff_not]at ho hv
 obtain⟨o1,o2,o3⟩:=ho
 obtain⟨w1,w2,w3,w4⟩:=rH o2
 have ey:x.y=((x.y.toNat:Nat):Int):=by omega
 have o5:x.v<x.y:=of_decide_eq_true o1
 have hv2:(v:Int)<x.v:=by
  rcases Int.le_total 0 x.v with h9 | h9
  ·rw[Int.max_eq_right h9]at hv;omega
  rw[Int.max_eq_left h9]at hv;omega
 have o4:¬(Mx.remJ ((M.rows (M.run N) (M.ex N) (M.cl N) N).map gN) ((M.run N).map gI) (v:Int) x.y).num.sign≤0:=of_decide_eq_false o3
 rw[ey]at o2 o4
 exact(Lr hOk o2 ((rT _).1 (by omega))).2 x hx ey hv2 (by omega)
end
def mL (q:Rat):List Tr:=(Fr4.of q).tr false
theorem oV (q:Rat):(mL q).length=4:=rfl
section
variable {M:Mx}{N k y:Nat}{U:List Us}{P:List (Nat×Nat)}{l:List Rat}
def lB (M:Mx) (N:Nat) (U:List Us):List Rat:=(List.range N).map fun y=>M.tax U y
theorem qS:(lB M N U).length=N:=by simp[lB]
theorem BZ (h:k<U.length):M.tax (U.take (k+1)) y=if(cA U k).y=(y:Int)then M.tax (U.take k) y-(cA U k).n else M.tax (U.take k) y:=by
 have e:eH (U.take (k+1)) y=eH (U.take k) y+iF [cA U k] fun u=>decide (u.y=(y:Int)):=by rw[Wf h];exact rS
 unfold Mx.tax
 rw[e]
 split
 ·rename_i h1
  have e2:iF [cA U k] (fun u=>decide (u.y=(y:Int)))=(cA U k).n:=by
   unfold iF
   rw[List.filter_cons_of_pos (by simpa using h1)]
   show 0+_=_
   grind
  rw[e2];grind
 rename_i h1
 rw[yI (U:=[cA U k]) (fun u hu=>by rw[List.mem_singleton.1 hu];exact decide_eq_false h1)];grind
theorem IU (h:k<U.length) (hy:y<N) (e:(cA U k).y=(y:Int)):(lB M N (U.take k)).set y (M.tax (U.take k) y-(cA U k).n)=lB M N (U.take (k+1)):=by
 apply List.ext_getElem?
 intro i
 by_cases hi:i<N
 ·have h2:(lB M N (U.take (k+1)))[i]? =some (M.tax (U.take (k+1)) i):=by simp[lB,hi]
  rw[h2,BZ h]
  by_cases hiy:y=i
  ·subst hiy
   rw[List.getElem?_set_self (by rw[qS];exact hy),if_pos e]
  rw[List.getElem?_set_ne hiy,if_neg (by omega)]
  simp[lB,hi]
 rw[List.getElem?_eq_none (by rw[List.length_set,qS];omega),List.getElem?_eq_none (by rw[qS];omega)]
theorem IV:M.tax [] y=abv (M.inc y)-M.ring y:=by
 unfold Mx.tax
 show _-(_+(0:Rat))=_
 grind
theorem Lu:∀{P:List (Nat×Nat)}{U:List Us}{k:Nat},U.length≤k→k<(fo M U P).length→(cA (fo M U P) k).p=M.tax ((fo M U P).take k) (cA (fo M U P) k).y.toNat
 | [],U,k,h,h2=>by
  have:fo M U []=U:=rfl
  rw[this]at h2
  omega
 | p::P,U,k,h,h2=>by
  have e:fo M U (p::P)=fo M (M.use U p.1 p.2) P:=rfl
  rw[e]at h2⊢
  by_cases hp:0<aZ (M.left U p.1) [M.room U p.2]
  ·rw[mG hp]at h2⊢
   by_cases hk:k=U.length
   ·obtain⟨T,eT,_⟩:=yJ (M:=M) (U:=M.app U p.1 p.2 (aZ (M.left U p.1) [M.room U p.2])) (P:=P)
    rw[eT]
    subst hk
    simp[cA,Mx.app]
   exact Lu (by simp[Mx.app];omega) h2
  rw[lX hp]at h2⊢
  exact Lu h h2
theorem Qm (h:k<(M.run N).length):(cA (M.run N) k).p=M.tax ((M.run N).take k) (cA (M.run N) k).y.toNat:=by
 rw[Lq]at h⊢
 exact Lu (Nat.zero_le _) h
theorem SY (hOk:M.Ok N) (h:k<(M.run N).length):(cA (M.run N) k).q=(cA (M.run N) k).p-(cA (M.run N) k).n:=by
 obtain⟨_,_,_,_,_,_,_,_,_,_,q⟩:=Qk hOk (jA h)
 exact q
theorem Ae (hOk:M.Ok N) (hU:UsOk U) (hl:U.length≤10000) (hy:y<N):Sz 9000000 (M.tax (U.take k) y):=by
 have h1:Sz 8000000 (eH (U.take k) y):=by
  refine(Ku (B:=700) fun q hq=>?_).mono ?_
  ·obtain⟨u,hu,rfl⟩:=List.mem_map.1 hq
   exact(hU u (List.mem_of_mem_take (List.mem_filter.1 hu).1)).1
  rw[List.length_map]
  have h1:=List.length_filter_le (fun u:Us=>decide (u.y=(y:Int))) (U.take k)
  have h3:(U.take k).length≤U.length:=by rw[List.length_take];omega
  omega
 have h2:=gY (hOk.sz_ring hy) h1
 unfold Mx.tax
 rw[Rat.sub_eq_add_neg]
 refine(gY (cQ (hOk.sz_inc hy) (by omega)) (q:=-(M.ring y+eH (U.take k) y)) (M:=330+8000000+1) ?_).mono (by omega)
 unfold Sz at*
 rwa[Rat.neg_num,Rat.neg_den,Int.natAbs_neg]
end
section
variable {M:Mx}{N k y:Nat}{U:List Us}{c:Fr4}{bk fw:Int}{ys:List (Fr4×Fr4)}{rs:List Rf}{us:List Uf}{p q:Rat}
theorem Af (h:y<N):(lB M N U)[y]? =some (M.tax U y):=by simp[lB,h]
theorem Xi:lB M k U++[M.tax U k]=lB M (k+1) U:=by simp[lB,List.range_succ]
theorem IW {us:List Us}(h:k<us.length):(us.map gI)[k]? =some (gI (cA us k)):=by rw[List.getElem?_map,iS h];rfl
theorem IX {e c:Nat→Rat}(h:k<N):((M.rows U e c N).map gN)[k]? =some (gN (M.row U e c k)):=by rw[List.getElem?_map,rE h];rfl
theorem WW (h:pY c ys=true):aE true Tryz.prog 8 [] [.agg ((c.tr false++[.v (.int .i64 bk),.v (.int .i64 fw)]:List Tr).map .t),.one (.t (fM ys))] (aN (.one (tv (.bool true)))):=by
 have h9:=FB (c:=c) (bk:=bk) (fw:=fw) (ys:=ys)
 rwa[h]at h9
theorem Tw (hp:Sz 17179869184 p) (h:p=q):aE true Tryz.prog 30 [] [qF (.of p),qF (.of q)] (aN (.one (tv (.bool true)))):=by
 subst h
 have h9:=qR (Qn.of hp) (Qn.of hp) hp hp
 rwa[decide_eq_true rfl]at h9
theorem yL (hp:Sz 17179869184 p):aE false Tryz.prog 27 [] [.one (.t (sQ false [Fr4.of p,Fr4.of ((0:Int):Rat)]))] (aN (qF (.of (abv p)))):=by
 have h0:Sz 17179869184 ((0:Int):Rat):=(kX (z:=0) (by omega) (by omega)).mono (by omega)
 have h:=NI (xs:=[Fr4.of p,Fr4.of ((0:Int):Rat)]) (by simp) (fun x hx=>by
  rcases List.mem_cons.1 hx with rfl | hx
  ·exact⟨(Qn.of hp).1,by rw[Fr4.q_of];exact hp⟩
  rw[List.mem_singleton]at hx
  subst hx
  exact⟨(Qn.of h0).1,by rw[Fr4.q_of];exact h0⟩) (by simp)
 have e:lI ([Fr4.of p,Fr4.of ((0:Int):Rat)].map Fr4.q)=abv p:=by
  simp only[List.map_cons,List.map_nil,Fr4.q_of]
  rfl
 rwa[e]at h
theorem IY (hOk:M.Ok N) (hU:UsOk U) (hl:U.length≤10000) (hy:y<N):Sz 9000000 (M.tax U y):=by
 have h:=Ae (k:=U.length) hOk hU hl hy
 rwa[List.take_length]at h
theorem CA {l:List Rat}{x:Rat}(h:k<l.length):(l.set k x)[k]? =some x:=List.getElem?_set_self h
theorem CB (hOk:M.Ok N):MM (M.rows (M.run N) (M.ex N) (M.cl N) N):=by
 intro r hr
 unfold Mx.rows at hr
 obtain⟨i,hi,rfl⟩:=List.mem_map.1 hr
 have hi:=List.mem_range.1 hi
 exact Wb hOk (hOk.run (Nat.le_refl _)) hi (EL hOk (Nat.le_refl _) hi) (EM hOk hi)
theorem OM (hOk:M.Ok N) (hJ:JOk rs us) (hsm:Sm (Fr4.of M.cap) (yrs M N)) (hm:cY (Fr4.of M.cap) ((M.b:Nat):Int) ((M.w:Nat):Int) (yrs M N)=0) (h:M.judge N rs us=true):aE true Tryz.prog 24 [] [.agg (((Fr4.of M.cap).tr false++[.v (.int .i64 ((M.b:Nat):Int)),.v (.int .i64 ((M.w:Nat):Int))]:List Tr).map .t),.one (.t (fM (yrs M N))),.agg (([gS rs,kI us]:List Tr).map .t)] (aN (.one (tv (.int .i64 0)))):=by
 have h9:=BP hOk hJ hsm hm
 rwa[if_pos h]at h9
theorem ON (hOk:M.Ok N) (hJ:JOk rs us) (hsm:Sm (Fr4.of M.cap) (yrs M N)) (hm:cY (Fr4.of M.cap) ((M.b:Nat):Int) ((M.w:Nat):Int) (yrs M N)=0) (h:M.judge N rs us=true):aE true Tryz.prog 25 [] [.agg (((Fr4.of M.cap).tr false++[.v (.int .i64 ((M.b:Nat):Int)),.v (.int .i64 ((M.w:Nat):Int))]:List Tr).map .t),.one (.t (jI (yrs M N))),.agg (([kA false rs,kB false us]:List Tr).map .t)] (aN (.one (tv (.int .i64 0)))):=by
 have h9:=BS hOk hJ hsm hm
 rwa[if_pos (Tf▸h)]at h9
end
theorem CC {M:Mx}{N:Nat}(hOk:M.Ok N) (hsm:Sm (Fr4.of M.cap) (yrs M N)) (hm:cY (Fr4.of M.cap) ((M.b:Nat):Int) ((M.w:Nat):Int) (yrs M N)=0) (hf:pY (Fr4.of M.cap) (yrs M N)=true):aE true Tryz.prog 6 [] [.agg (((Fr4.of M.cap).tr false++[.v (.int .i64 ((M.b:Nat):Int)),.v (.int .i64 ((M.w:Nat):Int))]:List Tr).map .t),.one (.t (fM (yrs M N)))] (aN (.one (tv (.bool true)))):=by
 refine bC Tryz.func6 rfl Tryz.ntmps6 rfl aA rfl fun N9 w9 c0 h0=>?_
 have hoU:=UsOk.run hOk (Nat.le_refl N);have hlU:(M.run N).length≤10000:=by have:=zR hOk.b hOk.w N;have:=hOk.n;omega
 have hlR:(M.rows (M.run N) (M.ex N) (M.cl N) N).length=N:=cZ;have hJ:=IR (CB hOk) hoU (by have:=hOk.n;omega) hlU;have hju:=Xh hOk;have h9m:((M.run N).map gI).length=(M.run N).length:=List.length_map ..;have h9l:=cK M N;have h9n:=hOk.n;have h9b:=hOk.b;have h9w:=hOk.w
 refine sq ?_;refine rl ?_;refine bx 0 ?_;refine o1 ?_;refine nl ?_;refine sq ?_;refine sq ?_;refine rl ?_;refine ld ?_;refine o1 ?_
 refine ca (WW hf) VG ⟨aB rfl,a1 rfl,rfl⟩ (.one (tv (.bool true))) ?_;refine o1 ?_;refine nl ?_;refine iH rfl ?_;refine sk ?_;refine sq ?_;refine rl ?_;refine ld ?_;refine o1 ?_
 refine ca (EK hOk hm) jJ ⟨aB rfl,a1 rfl,rfl⟩ (.tup [.agg [.t (.s false 66 24 (M.rows (M.run N) (M.ex N) (M.cl N) N).length ((M.rows (M.run N) (M.ex N) (M.cl N) N).flatMap (cE true))),.t (.s false 46 14 (M.run N).length ((M.run N).flatMap (dQ true)))],.one (tv (.int .i64 0))]) ?_
 refine o1 ?_;refine o1 ?_;refine WL.sub (YX (i:=22) rfl ((MN (M.rows (M.run N) (M.ex N) (M.cl N) N) (M.run N)).trans (by rw[MU,MT]))) ?_
 refine o1 ?_;refine al 1 ?_;refine st ?_;refine o1 ?_;refine nl ?_;refine sq ?_;refine sq ?_;refine rl ?_;refine o1 ?_;refine o1 ?_;refine nl ?_
 refine bP rfl (fun h1=>?_) (fun h1=>?_)
 ·exact absurd rfl h1
 refine sk ?_;refine sq ?_;refine sq ?_;refine rl ?_;refine o1 ?_;refine ld ?_;(iterate 3 refine o1 ?_)
 refine WL.cast (t:=51) (u':=.int .i64 ((N:Nat):Int)) rfl (aH (by rw[cK])) ?_
 refine o1 ?_;refine nl ?_;refine bP rfl (fun h2=>?_) (fun h2=>?_)
 ·exact absurd h2 (by rw[List.length_map,hlR];omega)
 refine sk ?_;refine sq ?_;refine sq ?_;refine rd [0,1] (fun i=>[].contains i) mixed ?_
 refine aI 0 ?_;refine dv 1 ?_;refine aI 2 ?_;refine aF 3 rfl (OM hOk hJ hsm hm hju) OO ⟨aB rfl,a1 rfl,aB rfl,rfl⟩ (.one (tv (.int .i64 0))) ?_;refine df 4 ?_;refine df 5 ?_
 refine WD.split (t:=58) rfl rfl (fun h3=>?_) (fun h3=>?_)
 ·exact absurd rfl h3
 refine aI 6 ?_;refine dv 8 ?_;refine aI 10 ?_
 refine aF 7 rfl (SW (BW hsm.c)) WX ⟨aB rfl,rfl⟩ (.agg (((Fr4.of M.cap).tr false++[.v (.int .i64 ((M.b:Nat):Int)),.v (.int .i64 ((M.w:Nat):Int))]:List Tr).map .t)) ?_
 refine aF 9 rfl (Tv (fun y hy=>⟨BW (hsm.y y hy).1,BW (hsm.y y hy).2⟩) (by have:=hsm.l;omega)) WY ⟨a1 rfl,rfl⟩ (.one (.t (jI (yrs M N)))) ?_
 refine aF 11 rfl (IN hJ) WZ ⟨aB rfl,rfl⟩ (.agg (([kA false ((M.rows (M.run N) (M.ex N) (M.cl N) N).map gN),kB false ((M.run N).map gI)]:List Tr).map .t)) ?_
 refine aF 12 rfl (ON hOk hJ hsm hm hju) XA ⟨aB rfl,a1 rfl,aB rfl,rfl⟩ (.one (tv (.int .i64 0))) ?_;refine df 13 ?_;refine df 14 ?_;refine aJ ?_
 refine bP rfl (fun h4=>?_) (fun h4=>?_)
 ·exact absurd rfl h4
 refine sk ?_;refine sq ?_;refine rl ?_;refine o1 ?_;refine nl ?_;refine sq ?_;refine sq ?_;refine WP.sub (nr (i:=7) 2 49 4 rfl rfl rfl rfl) ?_;refine rl ?_;refine o1 ?_
 refine nl ?_;refine bl ?_
 refine lp (γ:=Nat) (fun k=>bS [(1,.one (.t (fM (yrs M N)))),(5,.one (.pt 0 0)),(7,.one (.sl 1 0 (k))),(8,.one (tv (.int .i64 ((k:Nat):Int))))]) (fun k=>[(⟨35,0,[.t (gS ((M.rows (M.run N) (M.ex N) (M.cl N) N).map gN)),.t (kI ((M.run N).map gI))]⟩:Ob),⟨49,4,((lB M k []).flatMap mL).map .t⟩].map some) (fun k=>k≤N) (fun k=>N-k) 0 (Nat.zero_le _) (aG h0 [1,2] _ _ (by decide) ⟨rfl,rfl,rfl,rfl,trivial⟩ ⟨oe rfl rfl,aQ rfl,rfl⟩) fun k hk=>?_
 refine sq ?_;refine sq ?_;refine rl ?_;(iterate 3 refine o1 ?_);refine WL.cast (t:=70) (u':=.int .i64 ((N:Nat):Int)) rfl (aH (by rw[cK])) ?_
 refine o1 ?_;refine nl ?_;refine bP rfl (fun h5=>?_) (fun h5=>?_)
 ·refine sk ?_;refine sq ?_;refine bl ?_
  refine md (γ:=Unit) (fun _=>bS [(1,.one (.t (fM (yrs M N)))),(5,.one (.pt 0 0)),(7,.one (.sl 1 0 (k))),(8,.one (tv (.int .i64 ((k:Nat):Int)))),(9,.one (.pt 2 0))]) (fun _=>([⟨35,0,[.t (gS ((M.rows (M.run N) (M.ex N) (M.cl N) N).map gN)),.t (kI ((M.run N).map gI))]⟩,⟨49,4,((lB M k []).flatMap mL).map .t⟩,⟨49,0,((Fr4.of ((abv (M.inc (k)))-(M.ring (k)))).tr false).map .t⟩]:List Ob).map some) (fun _=>True) ?_ fun _ _=>?_
  ·refine rd [0] (fun i=>[17].contains i) mixed ?_
   refine dv 0 ?_;refine dv 1 ?_;refine dv 2 ?_;refine dv 3 ?_
   refine cM 4 ((Fr4.of (M.inc (k))).tr false) (aP (f:=bV) (z:=8) (o:=0) cV (eB (M:=M) (N:=N) (y:=k) (by omega)) (Nat.le_of_ble_eq_true rfl) rfl) ?_
   refine dv 9 ?_;refine dv 10 ?_;refine dv 11 ?_;refine dv 12 ?_
   refine cM 13 ((Fr4.of (M.ring (k))).tr false) (aP (f:=bV) (z:=8) (o:=4) cV (eB (M:=M) (N:=N) (y:=k) (by omega)) (Nat.le_of_ble_eq_true rfl) rfl) ?_
   refine WO.two (i:=5) (j:=16) (by kernel_rfl) ?_ ?_
   ·refine cX 5 rfl (dP (a:=.of (M.inc (k))) (uI (hOk.sz_inc (y:=k) (by omega)))) iL ⟨aB rfl,rfl⟩ (qF (.of (M.inc (k)))) ?_
    refine WO.two (i:=6) (j:=16) (by kernel_rfl) ?_ ?_
    ·refine cX 6 rfl (rK (n:=0) (by omega) (by omega)) Ll ⟨a1 rfl,rfl⟩ (qF (.of ((0:Int):Rat))) ?_
     refine WO.two (i:=7) (j:=16) (by kernel_rfl) ?_ ?_
     ·refine Fk (key:=2) 7 rfl rfl ⟨rfl,trivial⟩ ?_
      refine jG (i:=81) (k:=2) (t:=49) (t':=49) (z:=4) (n:=2) (l:=[(.of (M.inc (k))),(.of ((0:Int):Rat))].flatMap (Fr4.tr false)) rfl rfl rfl rfl (.one .sl) (by rfl) (by rfl) ?_
      refine WO.two (i:=8) (j:=16) (by kernel_rfl) ?_ ?_
      ·refine cX 8 rfl (yL (p:=(M.inc (k))) ((hOk.sz_inc (y:=k) (by omega)).mono (by omega))) Lw ⟨a1 rfl,rfl⟩ (qF (.of (abv (M.inc (k))))) ?_
       refine WO.two (i:=14) (j:=16) (by kernel_rfl) ?_ ?_
       ·refine cX 14 rfl (dP (a:=.of (M.ring (k))) (uI (hOk.sz_ring (y:=k) (by omega)))) iL ⟨aB rfl,rfl⟩ (qF (.of (M.ring (k)))) ?_
        refine WO.two (i:=15) (j:=16) (by kernel_rfl) ?_ ?_
        ·refine cX 15 rfl (mT (Qn.of (p:=(abv (M.inc (k)))) (cQ (hOk.sz_inc (y:=k) (by omega)) (by omega))) (Qn.of (p:=(M.ring (k))) (hOk.sz_ring (y:=k) (by omega))) ((cQ (hOk.sz_inc (y:=k) (by omega)) (by omega)).mono (by omega)) ((hOk.sz_ring (y:=k) (by omega)).mono (by omega))) tN ⟨aB rfl,aB rfl,rfl⟩ (qF (.of ((abv (M.inc (k)))-(M.ring (k))))) ?_
         refine eN (key:=3) 16 (by kernel_rfl) rfl rfl aA rfl ⟨rfl,trivial⟩ ?_
         refine dst 17 ?_;refine aJ ?_;exact⟨(),trivial,aG h0 [0,1,3] _ _ (by decide) ⟨rfl,rfl,rfl,rfl,rfl,trivial⟩ ⟨oe rfl rfl,aQ rfl,oe rfl rfl,rfl⟩⟩
        refine bI (key:=3) 16 rfl rfl aA rfl ⟨rfl,trivial⟩ ?_
        refine aF 15 rfl (mT (Qn.of (p:=(abv (M.inc (k)))) (cQ (hOk.sz_inc (y:=k) (by omega)) (by omega))) (Qn.of (p:=(M.ring (k))) (hOk.sz_ring (y:=k) (by omega))) ((cQ (hOk.sz_inc (y:=k) (by omega)) (by omega)).mono (by omega)) ((hOk.sz_ring (y:=k) (by omega)).mono (by omega))) tN ⟨aB rfl,aB rfl,rfl⟩ (qF (.of ((abv (M.inc (k)))-(M.ring (k))))) ?_
        refine dst 17 ?_;refine aJ ?_;exact⟨(),trivial,aG h0 [0,1,3] _ _ (by decide) ⟨rfl,rfl,rfl,rfl,rfl,trivial⟩ ⟨oe rfl rfl,aQ rfl,oe rfl rfl,rfl⟩⟩
       refine bI (key:=3) 16 rfl rfl aA rfl ⟨rfl,trivial⟩ ?_
       refine aF 14 rfl (dP (a:=.of (M.ring (k))) (uI (hOk.sz_ring (y:=k) (by omega)))) iL ⟨aB rfl,rfl⟩ (qF (.of (M.ring (k)))) ?_
       refine aF 15 rfl (mT (Qn.of (p:=(abv (M.inc (k)))) (cQ (hOk.sz_inc (y:=k) (by omega)) (by omega))) (Qn.of (p:=(M.ring (k))) (hOk.sz_ring (y:=k) (by omega))) ((cQ (hOk.sz_inc (y:=k) (by omega)) (by omega)).mono (by omega)) ((hOk.sz_ring (y:=k) (by omega)).mono (by omega))) tN ⟨aB rfl,aB rfl,rfl⟩ (qF (.of ((abv (M.inc (k)))-(M.ring (k))))) ?_
       refine dst 17 ?_;refine aJ ?_;exact⟨(),trivial,aG h0 [0,1,3] _ _ (by decide) ⟨rfl,rfl,rfl,rfl,rfl,trivial⟩ ⟨oe rfl rfl,aQ rfl,oe rfl rfl,rfl⟩⟩
      refine bI (key:=3) 16 rfl rfl aA rfl ⟨rfl,trivial⟩ ?_
      refine aF 8 rfl (yL (p:=(M.inc (k))) ((hOk.sz_inc (y:=k) (by omega)).mono (by omega))) Lw ⟨a1 rfl,rfl⟩ (qF (.of (abv (M.inc (k))))) ?_
      refine aF 14 rfl (dP (a:=.of (M.ring (k))) (uI (hOk.sz_ring (y:=k) (by omega)))) iL ⟨aB rfl,rfl⟩ (qF (.of (M.ring (k)))) ?_
      refine aF 15 rfl (mT (Qn.of (p:=(abv (M.inc (k)))) (cQ (hOk.sz_inc (y:=k) (by omega)) (by omega))) (Qn.of (p:=(M.ring (k))) (hOk.sz_ring (y:=k) (by omega))) ((cQ (hOk.sz_inc (y:=k) (by omega)) (by omega)).mono (by omega)) ((hOk.sz_ring (y:=k) (by omega)).mono (by omega))) tN ⟨aB rfl,aB rfl,rfl⟩ (qF (.of ((abv (M.inc (k)))-(M.ring (k))))) ?_
      refine dst 17 ?_;refine aJ ?_;exact⟨(),trivial,aG h0 [0,1,3] _ _ (by decide) ⟨rfl,rfl,rfl,rfl,rfl,trivial⟩ ⟨oe rfl rfl,aQ rfl,oe rfl rfl,rfl⟩⟩
     refine bI (key:=2) 16 rfl rfl aA rfl ⟨rfl,trivial⟩ ?_;refine eZ (key:=3) 7 (by kernel_rfl) rfl rfl aA rfl ⟨rfl,trivial⟩ ?_
     refine jG (i:=81) (k:=3) (t:=49) (t':=49) (z:=4) (n:=2) (l:=[(.of (M.inc (k))),(.of ((0:Int):Rat))].flatMap (Fr4.tr false)) rfl rfl rfl rfl (.one .sl) (by rfl) (by rfl) ?_
     refine aF 8 rfl (yL (p:=(M.inc (k))) ((hOk.sz_inc (y:=k) (by omega)).mono (by omega))) Lw ⟨a1 rfl,rfl⟩ (qF (.of (abv (M.inc (k))))) ?_
     refine aF 14 rfl (dP (a:=.of (M.ring (k))) (uI (hOk.sz_ring (y:=k) (by omega)))) iL ⟨aB rfl,rfl⟩ (qF (.of (M.ring (k)))) ?_
     refine aF 15 rfl (mT (Qn.of (p:=(abv (M.inc (k)))) (cQ (hOk.sz_inc (y:=k) (by omega)) (by omega))) (Qn.of (p:=(M.ring (k))) (hOk.sz_ring (y:=k) (by omega))) ((cQ (hOk.sz_inc (y:=k) (by omega)) (by omega)).mono (by omega)) ((hOk.sz_ring (y:=k) (by omega)).mono (by omega))) tN ⟨aB rfl,aB rfl,rfl⟩ (qF (.of ((abv (M.inc (k)))-(M.ring (k))))) ?_
     refine dst 17 ?_;refine aJ ?_;exact⟨(),trivial,aG h0 [0,1,2] _ _ (by decide) ⟨rfl,rfl,rfl,rfl,rfl,trivial⟩ ⟨oe rfl rfl,aQ rfl,oe rfl rfl,rfl⟩⟩
    refine bI (key:=2) 16 rfl rfl aA rfl ⟨rfl,trivial⟩ ?_;refine aF 6 rfl (rK (n:=0) (by omega) (by omega)) Ll ⟨a1 rfl,rfl⟩ (qF (.of ((0:Int):Rat))) ?_
    refine eZ (key:=3) 7 (by kernel_rfl) rfl rfl aA rfl ⟨rfl,trivial⟩ ?_
    refine jG (i:=81) (k:=3) (t:=49) (t':=49) (z:=4) (n:=2) (l:=[(.of (M.inc (k))),(.of ((0:Int):Rat))].flatMap (Fr4.tr false)) rfl rfl rfl rfl (.one .sl) (by rfl) (by rfl) ?_
    refine aF 8 rfl (yL (p:=(M.inc (k))) ((hOk.sz_inc (y:=k) (by omega)).mono (by omega))) Lw ⟨a1 rfl,rfl⟩ (qF (.of (abv (M.inc (k))))) ?_
    refine aF 14 rfl (dP (a:=.of (M.ring (k))) (uI (hOk.sz_ring (y:=k) (by omega)))) iL ⟨aB rfl,rfl⟩ (qF (.of (M.ring (k)))) ?_
    refine aF 15 rfl (mT (Qn.of (p:=(abv (M.inc (k)))) (cQ (hOk.sz_inc (y:=k) (by omega)) (by omega))) (Qn.of (p:=(M.ring (k))) (hOk.sz_ring (y:=k) (by omega))) ((cQ (hOk.sz_inc (y:=k) (by omega)) (by omega)).mono (by omega)) ((hOk.sz_ring (y:=k) (by omega)).mono (by omega))) tN ⟨aB rfl,aB rfl,rfl⟩ (qF (.of ((abv (M.inc (k)))-(M.ring (k))))) ?_
    refine dst 17 ?_;refine aJ ?_;exact⟨(),trivial,aG h0 [0,1,2] _ _ (by decide) ⟨rfl,rfl,rfl,rfl,rfl,trivial⟩ ⟨oe rfl rfl,aQ rfl,oe rfl rfl,rfl⟩⟩
   refine bI (key:=2) 16 rfl rfl aA rfl ⟨rfl,trivial⟩ ?_
   refine aF 5 rfl (dP (a:=.of (M.inc (k))) (uI (hOk.sz_inc (y:=k) (by omega)))) iL ⟨aB rfl,rfl⟩ (qF (.of (M.inc (k)))) ?_
   refine aF 6 rfl (rK (n:=0) (by omega) (by omega)) Ll ⟨a1 rfl,rfl⟩ (qF (.of ((0:Int):Rat))) ?_
   refine eZ (key:=3) 7 (by kernel_rfl) rfl rfl aA rfl ⟨rfl,trivial⟩ ?_
   refine jG (i:=81) (k:=3) (t:=49) (t':=49) (z:=4) (n:=2) (l:=[(.of (M.inc (k))),(.of ((0:Int):Rat))].flatMap (Fr4.tr false)) rfl rfl rfl rfl (.one .sl) (by rfl) (by rfl) ?_
   refine aF 8 rfl (yL (p:=(M.inc (k))) ((hOk.sz_inc (y:=k) (by omega)).mono (by omega))) Lw ⟨a1 rfl,rfl⟩ (qF (.of (abv (M.inc (k))))) ?_
   refine aF 14 rfl (dP (a:=.of (M.ring (k))) (uI (hOk.sz_ring (y:=k) (by omega)))) iL ⟨aB rfl,rfl⟩ (qF (.of (M.ring (k)))) ?_
   refine aF 15 rfl (mT (Qn.of (p:=(abv (M.inc (k)))) (cQ (hOk.sz_inc (y:=k) (by omega)) (by omega))) (Qn.of (p:=(M.ring (k))) (hOk.sz_ring (y:=k) (by omega))) ((cQ (hOk.sz_inc (y:=k) (by omega)) (by omega)).mono (by omega)) ((hOk.sz_ring (y:=k) (by omega)).mono (by omega))) tN ⟨aB rfl,aB rfl,rfl⟩ (qF (.of ((abv (M.inc (k)))-(M.ring (k))))) ?_
   refine dst 17 ?_;refine aJ ?_;exact⟨(),trivial,aG h0 [0,1,2] _ _ (by decide) ⟨rfl,rfl,rfl,rfl,rfl,trivial⟩ ⟨oe rfl rfl,aQ rfl,oe rfl rfl,rfl⟩⟩
  refine rl ?_;refine o1 ?_;refine ld ?_;refine bs 3 ?_
  refine kK (j:=4) aA rfl rfl rfl rfl (.sl rfl (by rw[List.length_map,gA oV,qS])) (.sl rfl rfl rfl) rfl rfl rfl (by omega) (by omega) ?_
  refine o1 ?_;refine nl ?_;refine rl ?_;refine o1 ?_;refine o1 ?_;refine WL.cast (t:=73) (u':=.int .i64 ((k+1:Nat):Int)) rfl (aH (by omega)) ?_
  refine o1 ?_;refine nl ?_
  have hst:((lB M k []).flatMap mL).map .t++(mL ((abv (M.inc (k)))-(M.ring (k)))).map AV.t=((lB M (k+1) []).flatMap mL).map .t:=by rw[←IV,pM,Xi]
  exact⟨k+1,by omega,by omega,aG h0 [0,4] _ _ (by decide) ⟨rfl,rfl,rfl,rfl,trivial⟩ ⟨oe rfl rfl,aQ (congrArg (fun l:List AV=>some (⟨49,4,l⟩:Ob)) hst),rfl⟩⟩
 refine ex ?_;refine sq ?_;refine sq ?_;have hkN:k=N:=by omega
 have h017:(lB M N ((M.run N).take 0))=(lB M k []):=by rw[hkN];rfl
 refine rl ?_;refine o1 ?_;refine nl ?_;refine bl ?_
 refine lp (γ:=Nat) (fun i=>bS [(1,.one (.t (fM (yrs M N)))),(5,.one (.pt 0 0)),(7,.one (.sl 1 0 (k))),(10,.one (tv (.int .i64 ((i:Nat):Int))))]) (fun i=>[(⟨35,0,[.t (gS ((M.rows (M.run N) (M.ex N) (M.cl N) N).map gN)),.t (kI ((M.run N).map gI))]⟩:Ob),⟨49,4,((lB M N ((M.run N).take i)).flatMap mL).map .t⟩].map some) (fun i=>i≤(M.run N).length∧True) (fun i=>(M.run N).length-i) 0 ⟨Nat.zero_le _,trivial⟩ (aG h0 [0,1] _ _ (by decide) ⟨rfl,rfl,rfl,rfl,trivial⟩ ⟨oe rfl rfl,aQ (congrArg (fun l:List Rat=>some (⟨49,4,(l.flatMap mL).map .t⟩:Ob)) h017.symm),rfl⟩) fun i hi=>?_
 refine sq ?_;refine sq ?_;refine rl ?_;refine o1 ?_;refine o1 ?_;refine ld ?_;refine o1 ?_
 refine WL.cast (t:=97) (u':=.int .i64 (((M.run N).length:Nat):Int)) rfl (aH (by rw[List.length_map])) ?_
 refine o1 ?_;refine nl ?_;refine bP rfl (fun h6=>?_) (fun h6=>?_)
 ·refine sk ?_;refine sq ?_;refine bl ?_;refine sq ?_;refine rl ?_;refine o1 ?_;refine ld ?_;refine o1 ?_;refine o1 ?_
  refine cW (fR false (gI (cA (M.run N) (i)))) (aP (f:=(fR false)) (z:=14) (o:=0) (fE false) (IW (us:=(M.run N)) (k:=i) (by omega)) (Nat.le_of_ble_eq_true rfl) rfl) ?_
  refine al 2 ?_;refine st ?_;refine nl ?_;refine sq ?_;refine sq ?_
  have hu9:=(Ed hOk (jA (us:=(M.run N)) (k:=i) (by omega))).1;have hy9:(gI (cA (M.run N) (i))).y=(cA (M.run N) (i)).y:=rfl
  refine rd [0,1,2] (fun i=>[].contains i) mixed ?_
  refine dv 0 ?_;refine aI 1 ?_;refine dv 2 ?_;refine dv 3 ?_;refine WD.split (t:=109) rfl rfl (fun h7=>?_) (fun h7=>?_)
  ·have hu9:=(Ed hOk (jA (us:=(M.run N)) (k:=i) (by omega))).1
   omega
  refine dv 4 ?_;refine aI 5 ?_;refine dv 6 ?_;refine dv 7 ?_;refine dv 8 ?_;refine dv 9 ?_;refine dv 10 ?_;refine WD.split (t:=116) rfl rfl (fun h8=>?_) (fun h8=>?_)
  ·have hu9:=(Ed hOk (jA (us:=(M.run N)) (k:=i) (by omega))).1
   omega
  refine dv 11 ?_;refine aI 12 ?_;refine dv 14 ?_;refine dv 15 ?_;refine aI 16 ?_
  refine WD.cast (t:=122) (u':=.int .i64 (((cA (M.run N) (i)).y.toNat:Nat):Int)) rfl (aH (by omega)) ?_
  refine dv 17 ?_
  refine oO 18 (fV (f:=mL) (z:=4) (o:=0) (us:=mL (M.tax ((M.run N).take i) ((cA (M.run N) (i)).y.toNat))) oV (Af (M:=M) (N:=N) (U:=((M.run N).take i)) (y:=(cA (M.run N) (i)).y.toNat) (by omega)) (Nat.le_of_ble_eq_true rfl) rfl) ?_
  refine aF 13 rfl (dP (a:=.of (cA (M.run N) (i)).p) (uI (hoU _ (jA (us:=(M.run N)) (k:=i) (by omega))).2.1)) iL ⟨aB rfl,rfl⟩ (qF (.of (cA (M.run N) (i)).p)) ?_
  refine aF 19 rfl (Tw (p:=(cA (M.run N) (i)).p) (q:=(M.tax ((M.run N).take i) ((cA (M.run N) (i)).y.toNat))) ((hoU _ (jA (us:=(M.run N)) (k:=i) (by omega))).2.1.mono (by omega)) (Qm (by omega))) yE ⟨aB rfl,aB rfl,rfl⟩ (.one (tv (.bool true))) ?_
  refine df 20 ?_;refine df 21 ?_;refine aJ ?_;refine iH rfl ?_;refine sk ?_;refine sq ?_;refine rd [0,1,2] (fun i=>[13].contains i) mixed ?_
  refine dv 0 ?_;refine dv 1 ?_;refine aI 2 ?_;refine WD.cast (t:=130) (u':=.int .i64 (((cA (M.run N) (i)).y.toNat:Nat):Int)) rfl (aH (by omega)) ?_
  refine dv 3 ?_;refine dv 4 ?_;refine aI 5 ?_;refine WD.cast (t:=133) (u':=.int .i64 (((cA (M.run N) (i)).y.toNat:Nat):Int)) rfl (aH (by omega)) ?_
  refine dv 6 ?_
  refine oO 7 (fV (f:=mL) (z:=4) (o:=0) (us:=mL (M.tax ((M.run N).take i) ((cA (M.run N) (i)).y.toNat))) oV (Af (M:=M) (N:=N) (U:=((M.run N).take i)) (y:=(cA (M.run N) (i)).y.toNat) (by omega)) (Nat.le_of_ble_eq_true rfl) rfl) ?_
  refine dv 8 ?_;refine aI 9 ?_
  refine aF 10 rfl (dP (a:=.of (cA (M.run N) (i)).n) (uI (hoU _ (jA (us:=(M.run N)) (k:=i) (by omega))).1)) iL ⟨aB rfl,rfl⟩ (qF (.of (cA (M.run N) (i)).n)) ?_
  refine aF 11 rfl (mT (Qn.of (p:=(M.tax ((M.run N).take i) ((cA (M.run N) (i)).y.toNat))) (Ae (k:=i) hOk hoU hlU (show((cA (M.run N) (i)).y.toNat)<N by omega))) (Qn.of (p:=(cA (M.run N) (i)).n) (hoU _ (jA (us:=(M.run N)) (k:=i) (by omega))).1) ((Ae (k:=i) hOk hoU hlU (show((cA (M.run N) (i)).y.toNat)<N by omega)).mono (by omega)) ((hoU _ (jA (us:=(M.run N)) (k:=i) (by omega))).1.mono (by omega))) tN ⟨aB rfl,aB rfl,rfl⟩ (qF (.of ((M.tax ((M.run N).take i) ((cA (M.run N) (i)).y.toNat))-(cA (M.run N) (i)).n))) ?_
  refine dv 12 ?_
  refine Sx 13 (lN (xs:=(lB M N ((M.run N).take i))) (k:=(cA (M.run N) (i)).y.toNat) (x:=(M.tax ((M.run N).take i) ((cA (M.run N) (i)).y.toNat))) (f:=mL) (z:=4) (o:=0) (x':=(((M.tax ((M.run N).take i) ((cA (M.run N) (i)).y.toNat))-(cA (M.run N) (i)).n):Rat)) (us:=mL ((M.tax ((M.run N).take i) ((cA (M.run N) (i)).y.toNat))-(cA (M.run N) (i)).n)) oV (Af (M:=M) (N:=N) (U:=((M.run N).take i)) (y:=(cA (M.run N) (i)).y.toNat) (by omega)) (Nat.le_of_ble_eq_true rfl) rfl) (oS (xs:=(lB M N ((M.run N).take i))) (k:=(cA (M.run N) (i)).y.toNat) (f:=mL) (z:=4) (o:=0) (us:=mL ((M.tax ((M.run N).take i) ((cA (M.run N) (i)).y.toNat))-(cA (M.run N) (i)).n)) oV (by rw[qS];omega) (Nat.le_of_ble_eq_true rfl)) ?_
  refine aJ ?_;refine sq ?_;refine rd [0,1,2] (fun i=>[].contains i) mixed ?_
  refine dv 0 ?_;refine aI 1 ?_;refine dv 3 ?_;refine dv 4 ?_;refine aI 5 ?_
  refine WD.cast (t:=146) (u':=.int .i64 (((cA (M.run N) (i)).y.toNat:Nat):Int)) rfl (aH (by omega)) ?_
  refine dv 6 ?_
  refine oO 7 (fV (f:=mL) (z:=4) (o:=0) (us:=mL ((M.tax ((M.run N).take i) ((cA (M.run N) (i)).y.toNat))-(cA (M.run N) (i)).n)) oV (CA (l:=(lB M N ((M.run N).take i))) (k:=(cA (M.run N) (i)).y.toNat) (by rw[qS];omega)) (Nat.le_of_ble_eq_true rfl) rfl) ?_
  refine aF 2 rfl (dP (a:=.of (cA (M.run N) (i)).q) (uI (hoU _ (jA (us:=(M.run N)) (k:=i) (by omega))).2.2)) iL ⟨aB rfl,rfl⟩ (qF (.of (cA (M.run N) (i)).q)) ?_
  refine aF 8 rfl (Tw (p:=(cA (M.run N) (i)).q) (q:=((M.tax ((M.run N).take i) ((cA (M.run N) (i)).y.toNat))-(cA (M.run N) (i)).n)) ((hoU _ (jA (us:=(M.run N)) (k:=i) (by omega))).2.2.mono (by omega)) ((SY hOk (by omega)).trans (by rw[Qm (by omega)]))) yE ⟨aB rfl,aB rfl,rfl⟩ (.one (tv (.bool true))) ?_
  refine df 9 ?_;refine aJ ?_;refine iH rfl ?_;refine sk ?_;refine rl ?_;refine o1 ?_;refine o1 ?_
  refine WL.cast (t:=100) (u':=.int .i64 ((i+1:Nat):Int)) rfl (aH (by omega)) ?_
  refine o1 ?_;refine nl ?_
  have hst:(lB M N ((M.run N).take (i+1)))=((lB M N ((M.run N).take i)).set ((cA (M.run N) (i)).y.toNat) (((M.tax ((M.run N).take i) ((cA (M.run N) (i)).y.toNat))-(cA (M.run N) (i)).n):Rat)):=(IU (M:=M) (N:=N) (U:=(M.run N)) (k:=i) (y:=(cA (M.run N) (i)).y.toNat) (by omega) (by omega) (by omega)).symm
  exact⟨i+1,by omega,⟨by omega,trivial⟩,aG h0 [0,1] _ _ (by decide) ⟨rfl,rfl,rfl,rfl,trivial⟩ ⟨oe rfl rfl,aQ (congrArg (fun l:List Rat=>some (⟨49,4,(l.flatMap mL).map .t⟩:Ob)) hst.symm),rfl⟩⟩
 refine ex ?_;refine sq ?_;refine sq ?_;refine rl ?_;refine o1 ?_;refine nl ?_;refine bl ?_
 refine lp (γ:=Nat) (fun j=>bS [(1,.one (.t (fM (yrs M N)))),(5,.one (.pt 0 0)),(7,.one (.sl 1 0 (k))),(12,.one (tv (.int .i64 ((j:Nat):Int))))]) (fun j=>[(⟨35,0,[.t (gS ((M.rows (M.run N) (M.ex N) (M.cl N) N).map gN)),.t (kI ((M.run N).map gI))]⟩:Ob),⟨49,4,((lB M N ((M.run N).take i)).flatMap mL).map .t⟩].map some) (fun j=>j≤N∧True) (fun j=>N-j) 0 ⟨Nat.zero_le _,trivial⟩ (aG h0 [0,1] _ _ (by decide) ⟨rfl,rfl,rfl,rfl,trivial⟩ ⟨oe rfl rfl,aQ rfl,rfl⟩) fun j hj=>?_
 refine sq ?_;refine sq ?_;refine rl ?_;(iterate 3 refine o1 ?_);refine WL.cast (t:=153) (u':=.int .i64 ((N:Nat):Int)) rfl (aH (by rw[cK])) ?_
 refine o1 ?_;refine nl ?_;refine bP rfl (fun h9=>?_) (fun h9=>?_)
 ·refine sk ?_;refine sq ?_;refine bl ?_;refine sq ?_;refine rd [0,1] (fun i=>[].contains i) mixed ?_
  refine dv 0 ?_;refine dv 1 ?_;refine dv 2 ?_
  refine oO 3 (fV (f:=mL) (z:=4) (o:=0) (us:=mL (M.tax ((M.run N).take i) (j))) oV (Af (M:=M) (N:=N) (U:=((M.run N).take i)) (y:=j) (by omega)) (Nat.le_of_ble_eq_true rfl) rfl) ?_
  refine dv 4 ?_;refine aI 5 ?_;refine dv 6 ?_;refine dv 7 ?_;refine dv 8 ?_
  refine cM 9 ((Fr4.of (M.row (M.run N) (M.ex N) (M.cl N) (j)).t).tr false) (aP (f:=(jR false)) (z:=24) (o:=12) (jL false) (IX (N:=N) (k:=j) (by omega)) (Nat.le_of_ble_eq_true rfl) rfl) ?_
  refine aF 10 rfl (dP (a:=.of (M.row (M.run N) (M.ex N) (M.cl N) (j)).t) (uI (show Sz 9000000 (M.tax (M.run N) (j)) from IY hOk hoU hlU (by omega)))) iL ⟨aB rfl,rfl⟩ (qF (.of (M.row (M.run N) (M.ex N) (M.cl N) (j)).t)) ?_
  refine aF 11 rfl (Tw (p:=(M.tax ((M.run N).take i) (j))) (q:=(M.row (M.run N) (M.ex N) (M.cl N) (j)).t) ((Ae (k:=i) hOk hoU hlU (show(j)<N by omega)).mono (by omega)) (show(M.tax ((M.run N).take i) (j))=(M.row (M.run N) (M.ex N) (M.cl N) (j)).t by rw[List.take_of_length_le (by omega)];rfl)) yE ⟨aB rfl,aB rfl,rfl⟩ (.one (tv (.bool true))) ?_
  refine df 12 ?_;refine aJ ?_;refine iH rfl ?_;refine sk ?_;refine rl ?_;refine o1 ?_;refine o1 ?_
  refine WL.cast (t:=156) (u':=.int .i64 ((j+1:Nat):Int)) rfl (aH (by omega)) ?_
  refine o1 ?_;refine nl ?_;exact⟨j+1,by omega,⟨by omega,trivial⟩,aG h0 [0,1] _ _ (by decide) ⟨rfl,rfl,rfl,rfl,trivial⟩ ⟨oe rfl rfl,aQ rfl,rfl⟩⟩
 refine ex ?_;refine sq ?_;refine rl ?_;refine ca (Fz) OP rfl (.one (tv (.bool true))) ?_;refine o1 ?_;refine nl ?_;refine rt ?_;exact eL (.inl rfl) rfl (rfl)
theorem IZ {c:Fr4}{bk fw:Int}{ys:List (Fr4×Fr4)}(hs:Sm c ys) (h:¬cY c bk fw ys=0):aE false Tryz.prog 10 [] [.agg ((c.tr false++[.v (.int .i64 bk),.v (.int .i64 fw)]:List Tr).map .t),.one (.t (fM ys))] (aN (.tup [.agg [.t (.s true 66 24 0 []),.t (.s true 46 14 0 [])],.one (tv (.int .i64 (cY c bk fw ys)))])):=by
 have h9:=We (bk:=bk) (fw:=fw) hs
 have e1:Bz c bk fw ys=[]:=if_neg h
 have e2:Fn c bk fw ys=[]:=if_neg h
 rw[e1,e2]at h9
 exact h9
theorem OQ {c:Fr4}{bk fw:Int}{ys:List (Fr4×Fr4)}(hs:Sm c ys) (hm:¬cY c bk fw ys=0):aE true Tryz.prog 24 [] [.agg ((c.tr false++[.v (.int .i64 bk),.v (.int .i64 fw)]:List Tr).map .t),.one (.t (fM ys)),.agg (([.s false 66 24 0 [],.s false 46 14 0 []]:List Tr).map .t)] (aN (.one (tv (.int .i64 (cY c bk fw ys))))):=BQ (rs:=[]) (us:=[]) hs hm
theorem CD {c:Fr4}{bk fw:Int}{ys:List (Fr4×Fr4)}(hc:tK c) (hy:∀y∈ys,tK y.1∧tK y.2) (hn:pY c ys=true→¬cY c bk fw ys=0):aE true Tryz.prog 6 [] [.agg ((c.tr false++[.v (.int .i64 bk),.v (.int .i64 fw)]:List Tr).map .t),.one (.t (fM ys))] (aN (.one (tv (.bool true)))):=by
 refine bC Tryz.func6 rfl Tryz.ntmps6 rfl aA rfl fun N9 w9 c0 h0=>?_
 refine sq ?_;refine rl ?_;refine bx 0 ?_;refine o1 ?_;refine nl ?_;refine sq ?_;refine sq ?_;refine rl ?_;refine ld ?_;refine o1 ?_
 refine ca (FB (c:=c) (bk:=bk) (fw:=fw) (ys:=ys)) VG ⟨aB rfl,a1 rfl,rfl⟩ (.one (tv (.bool (pY c ys)))) ?_;refine WL.splitb (t:=15) rfl (fun h1=>?_) (fun h1=>?_)
 ·refine o1 ?_;refine nl ?_;refine iH rfl ?_;refine sk ?_;refine sq ?_;refine rl ?_;refine ld ?_;refine o1 ?_;have hs:=Pq h1 hc hy
  have hm:=hn h1
  refine ca (IZ (bk:=bk) (fw:=fw) hs hm) jJ ⟨aB rfl,a1 rfl,rfl⟩ (.tup [.agg [.t (.s false 66 24 0 []),.t (.s false 46 14 0 [])],.one (tv (.int .i64 (cY c bk fw ys)))]) ?_
  (iterate 3 refine o1 ?_);refine al 1 ?_;refine st ?_;refine o1 ?_;refine nl ?_;refine sq ?_;refine sq ?_;refine rl ?_;refine o1 ?_;refine o1 ?_;refine nl ?_
  refine bP rfl (fun h2=>?_) (fun h2=>?_)
  ·refine sq ?_;refine rl ?_;refine o1 ?_;refine ld ?_;(iterate 3 refine o1 ?_);refine WL.split (t:=30) rfl (fun h3=>?_) (fun h3=>?_)
   ·refine o1 ?_;refine ld ?_;(iterate 4 refine o1 ?_);refine WL.split (t:=36) rfl (fun h4=>?_) (fun h4=>?_)
    ·refine ld ?_;refine o1 ?_;refine ld ?_;refine ca (OQ (bk:=bk) (fw:=fw) hs hm) OO ⟨aB rfl,a1 rfl,aB rfl,rfl⟩ (.one (tv (.int .i64 (cY c bk fw ys)))) ?_
     (iterate 4 refine o1 ?_);refine WL.split (t:=44) rfl (fun h5=>?_) (fun h5=>?_)
     ·refine ca (Fz) OP rfl (.one (tv (.bool true))) ?_;refine o1 ?_;refine o1 ?_;refine nl ?_;refine rt ?_;exact eL (.inl rfl) rfl (rfl)
     exact absurd rfl h5
    exact absurd rfl h4
   exact absurd rfl h3
  exact absurd hm h2
 refine o1 ?_;refine nl ?_;refine gL rfl ?_;refine sq ?_;refine rl ?_;refine ca (Fz) OP rfl (.one (tv (.bool true))) ?_;refine o1 ?_;refine nl ?_;refine rt ?_
 exact eL (.inl rfl) rfl (rfl)
theorem Iu {c:Fr4}{bk fw:Int}{ys:List (Fr4×Fr4)}(hc:tK c) (hy:∀y∈ys,tK y.1∧tK y.2):aE true Tryz.prog 6 [] [.agg ((c.tr false++[.v (.int .i64 bk),.v (.int .i64 fw)]:List Tr).map .t),.one (.t (fM ys))] (aN (.one (tv (.bool true)))):=by
 by_cases h:pY c ys=true∧cY c bk fw ys=0
 ·obtain⟨hf,h⟩:=h
  have hs:=Pq hf hc hy
  obtain⟨h1,e1,e2,e3,e4⟩:=EN hs h
  have h9:=CC h1 (by rw[←e1,←e4];exact hs) (by rw[←e1,←e2,←e3,←e4];exact h) (by rw[←e1,←e4];exact hf)
  rw[←e1,←e2,←e3,←e4]at h9
  exact h9
 exact CD hc hy fun hf hm=>h ⟨hf,hm⟩
end Go.Proofs.YthoemjjmkgmnjaaGreat
