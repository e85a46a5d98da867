/- Part 8 of a proof: P1 to Rib4. -/
import Derived.Test.YteggpgndiajdpaaGreatDoorM7
import Derived.Test.YteggpgndiajdpaaGreatDoorM5
import Derived.Test.YteggpgndiajdpaaGreatDoorM6
import Derived.ProofKit
import Derived.ChangeOld
import Derived.Deep.Slices
import Derived.Deep.Strs
import Derived.WalkKit
import Derived.OpenShut
import Derived.Below
import Derived.Carry
set_option maxRecDepth 100000
set_option linter.unusedVariables false
set_option linter.unusedSimpArgs false
namespace Go.Proofs.YteggpgndiajdpaaGreatDoor
open Go Go.RowKit
theorem Jo {l:List Nat}(h:decide (l=[])=false):0<l.length:=by
 cases l with
 | nil=>simp at h
 | cons _ _=>simp
theorem yT {l:List Nat}{j:Nat}(h:(!decide (l.drop j=[]))=true):j<l.length:=by
 rcases Nat.lt_or_ge j l.length with h1 | h1
 ·exact h1
 rw[List.drop_of_length_le h1]at h;simp at h
theorem yU {l:List Nat}{j:Nat}(h:(!decide (l.drop j=[]))=false):l.length≤j:=by
 rcases Nat.lt_or_ge j l.length with h1 | h1
 ·have h2:=of_decide_eq_true (yE h)
  have h3:=congrArg List.length h2
  rw[List.length_drop,List.length_nil]at h3
  omega
 exact h1
theorem Nv {l:List Nat}(hl:Lim 256 l):aI true Tryz.prog 68 [] [.one (tv (.string (aS l))),.one (tv (.string ⟨#[45]⟩))] (aX (.tup [.one (tv (.string (aS (fO l)))),.one (tv (.bool (decide (l.take 1=[45]))))])):=wX hl
theorem Jp {l:List Nat}(hl:Lim 256 l):Lim 256 (fO l):=by unfold fO;split;exact mP hl 1;exact hl
theorem Jq {l:List Nat}:(fO l).length≤l.length:=by unfold fO;split;(rw[List.length_drop];omega);exact Nat.le_refl _
theorem Jr {l:List Nat}(hl:Lim 256 l) (hn:l.length≤1000000):aI true Tryz.prog 9 [] [.one (tv (.string (aS l)))] (aX (.tup [.one (.t (sU true (dg 4294967296 (wA l)))),.one (tv (.int .i64 (hG l)))])):=by
 refine dV Tryz.func9 rfl Tryz.ntmps9 rfl aD rfl fun N9 w9 c0 h0=>?_
 refine sq ?_;refine rl ?_;refine o1 ?_;refine o1 ?_;refine nl ?_;refine sq ?_;refine bl ?_;refine sq ?_;refine sq ?_;refine rl ?_;refine o1 ?_;refine o1 ?_
 refine WL.cast (t:=10) (u':=.bool (decide (l=[]))) rfl (congrArg Value.bool (lN hl)) ?_;refine o1 ?_;refine nl ?_;refine mY rfl (fun h1=>?_) (fun h1=>?_)
 ·refine sk ?_;refine lG (congrArg (fun b=>FV.one (tv (.bool b))) h1) ?_
  refine sq ?_;refine rl ?_;refine o1 ?_;refine o1 ?_;refine nl ?_;refine rt ?_;have he:=tQ (Py h1)
  exact en (.inl rfl) rfl (gZ (.cons (.one (.nil (t:=22) (z:=1))) (.cons (cF _) .nil))) (by decide) (fun _=>⟨.inl ⟨rfl,trivial⟩,trivial,trivial⟩) (by rw[he,oS (by rw[he];decide)];rfl)
 refine sq ?_;have hp9:=Jo h1
 refine rl ?_;refine o1 ?_;refine o1 ?_
 refine WL.cast (t:=12) (u':=.bool (!decide (l=[48]))) rfl (congrArg Value.bool (congrArg not (tL (l':=[48]) hl (Lim.cons (by omega) Lim.nil)))) ?_
 refine o1 ?_;refine WL.splitb (t:=13) rfl (fun h2=>?_) (fun h2=>?_)
 ·refine o1 ?_;refine o1 ?_ (hC:=(by rw[bO];show 0<l.length;omega))
  refine WL.cast (t:=15) (u':=.int .u8 (((nth l 0):Nat):Int)) rfl (congrArg (fun n:Nat=>Value.int .u8 (n:Int)) (oO (i:=0) (by omega) (yG hl (by omega)))) ?_
  (iterate 3 refine o1 ?_);refine nl ?_;refine eL rfl (fun h3=>?_) (fun h3=>?_)
  ·refine sk ?_;refine eL rfl (fun h4=>?_) (fun h4=>?_)
   ·refine sq ?_;refine rl ?_;refine o1 ?_;refine o1 ?_;refine nl ?_;refine rt ?_;have he:=tQ (Pz (Gq h2) (by omega))
    exact en (.inl rfl) rfl (gZ (.cons (.one (.nil (t:=22) (z:=1))) (.cons (cF _) .nil))) (by decide) (fun _=>⟨.inl ⟨rfl,trivial⟩,trivial,trivial⟩) (by rw[he,oS (by rw[he];decide)];rfl)
   omega
  refine rl ?_;refine o1 ?_;refine ca (vW hn) Lw ⟨a1 rfl,a1 rfl,rfl⟩ (.one (tv (.string ⟨(Lib.trimS (aS l).data.toList [48,49,50,51,52,53,54,55,56,57]).toArray⟩))) ?_
  refine o1 ?_;refine WL.cast (t:=20) (u':=.bool (!nD l)) rfl (congrArg Value.bool (congrArg not (yR hl))) ?_;refine o1 ?_;refine nl ?_;refine mY rfl (fun h5=>?_) (fun h5=>?_)
  ·refine sq ?_;refine rl ?_;refine o1 ?_;refine o1 ?_;refine nl ?_;refine rt ?_;have he:=tQ (Ba (Gq h5))
   exact en (.inl rfl) rfl (gZ (.cons (.one (.nil (t:=22) (z:=1))) (.cons (cF _) .nil))) (by decide) (fun _=>⟨.inl ⟨rfl,trivial⟩,trivial,trivial⟩) (by rw[he,oS (by rw[he];decide)];rfl)
  refine sq ?_;have hg:=wB h1 (.inr (by omega)) (yE h5)
  have hdg:=Ds hg
  refine rl ?_;refine o1 ?_;refine o1 ?_;refine WL.cast (t:=23) (u':=.int .i64 ((l.length:Nat):Int)) rfl (congrArg (fun n:Nat=>Value.int .i64 (n:Int)) (bO _)) ?_
  refine o1 ?_;refine o1 ?_;refine nl ?_;refine eL rfl (fun h6=>?_) (fun h6=>?_)
  ·refine sq ?_;refine rl ?_;refine o1 ?_;refine o1 ?_;refine nl ?_;refine rt ?_;have he:=Nn hg (by omega)
   exact en (.inl rfl) rfl (gZ (.cons (.one (.nil (t:=22) (z:=1))) (.cons (cF _) .nil))) (by decide) (fun _=>⟨.inl ⟨rfl,trivial⟩,trivial,trivial⟩) (by rw[he,oS (by rw[he];decide)];rfl)
  refine sk ?_;refine sq ?_;refine rl ?_;refine o1 ?_;refine nl ?_;refine sq ?_;refine sq ?_;refine rl ?_;refine o1 ?_;refine o1 ?_
  refine WL.cast (t:=26) (u':=.int .i64 ((l.length:Nat):Int)) rfl (congrArg (fun n:Nat=>Value.int .i64 (n:Int)) (bO _)) ?_
  refine o1 ?_;refine WL.cast (t:=27) (u':=.int .i64 ((l.length%9:Nat):Int)) rfl (dN (sF _ 9)) ?_;refine o1 ?_;refine nl ?_;refine bl ?_
  refine lp (γ:=Nat×Nat) (fun s=>dU [(0,.one (tv (.string (aS (l.drop s.1))))),(4,.one (.sl 0 0 ((dg 4294967296 (bF (l.take s.1))).length))),(5,.one (tv (.int .i64 ((s.2:Nat):Int))))]) (fun s=>[(⟨22,1,(aZ (dg 4294967296 (bF (l.take s.1)))).map .t⟩:Ob)].map some) (fun s=>s.1≤l.length∧(s.1=0∧s.2=l.length%9∨0<s.1∧s.2=9∧(l.length-s.1)%9=0)) (fun s=>l.length-s.1) (0,l.length%9) ⟨Nat.zero_le _,.inl ⟨rfl,rfl⟩⟩ ((nr (i:=4) 0 22 1 rfl rfl rfl rfl).trans (bZ h0 [0] _ _ (by decide) ⟨rfl,rfl,rfl,trivial⟩ ⟨dS (l:=[]) rfl,rfl⟩)) ?_
  rintro⟨j,f⟩ ⟨hj,hf⟩;dsimp only at hj hf⊢;refine sq ?_;refine sq ?_;refine rl ?_;refine o1 ?_;refine o1 ?_
  refine WL.cast (t:=29) (u':=.bool (!decide (l.drop j=[]))) rfl (congrArg Value.bool (congrArg not (lN (mP hl j)))) ?_;refine nl ?_
  refine mY rfl (fun h7=>?_) (fun h7=>?_)
  ·refine sk ?_;refine sq ?_;refine bl ?_;refine sq ?_;refine sq ?_;have hjl:=yT h7
   refine rl ?_;refine o1 ?_;refine o1 ?_;refine nl ?_;refine eL rfl (fun h8=>?_) (fun h8=>?_)
   ·refine rl ?_;refine o1 ?_;refine nl ?_;refine sq ?_;refine rl ?_;refine o1 ?_;refine o1 ?_;refine o1 ?_ (hC:=(by rw[bO,List.length_drop];show 9≤l.length-j;omega))
    refine WL.cast (t:=35) (u':=.string (aS ((l.drop j).take 9))) rfl (congrArg Value.string ((lM _ 0 _).trans rfl)) ?_
    refine ca (rB (l:=((l.drop j).take 9)) (mS hdg j 9) (by rw[List.length_take,List.length_drop];omega) (by rw[List.length_take];omega)) zX ⟨a1 rfl,rfl⟩ (.tup [.one (tv (.int .i64 ((bF ((l.drop j).take 9):Nat):Int))),.one (tv .nilIface)]) ?_
    (iterate 5 refine o1 ?_);refine nl ?_;refine sq ?_;have hpl:=mT hdg (j:=j) (f:=9) (by omega) (by omega)
    have hpc:=kQ (l:=l) (j:=j) (f:=9) (by omega) (by omega)
    have hl1:=oT hdg hj
    have hl2:=gT (bF (l.take j)) 1000000000
    have hl3:(dg 4294967296 1000000000).length≤1:=bG (by omega) (by decide)
    refine rl ?_;refine o1 ?_
    refine ca (rD (u:=bF (l.take j)) (m:=1000000000) (by omega) (by omega)) zY ⟨nA rfl (.sl rfl rfl (lT _) (bV _)),a1 rfl,rfl⟩ (.one (.t (sU false (dg 4294967296 (bF (l.take j)*1000000000))))) ?_
    refine o1 ?_;refine o1 ?_;refine WL.cast (t:=42) (u':=.int .u32 ((bF ((l.drop j).take 9):Nat):Int)) rfl (dN (by omega)) ?_
    refine bs 1 ?_
    refine nY 2 (rE (u:=bF (l.take j)*1000000000) (x:=bF ((l.drop j).take 9)) (by omega) (by omega)) rX ⟨a1 rfl,nA rfl (.sl (trs:=aZ [bF ((l.drop j).take 9)]) rfl rfl rfl rfl),rfl⟩ ?_
    refine o1 ?_;refine nl ?_;refine rl ?_;refine o1 ?_;refine o1 ?_;refine o1 ?_ (hC:=(by rw[bO,List.length_drop];show 9≤l.length-j;omega))
    refine WL.cast (t:=47) (u':=.string (aS ((l.drop j).drop 9))) rfl (congrArg Value.string (jK _ _)) ?_;refine o1 ?_;refine nl ?_;refine rl ?_;refine o1 ?_;refine nl ?_
    exact⟨(j+9,9),by dsimp only;omega,⟨by dsimp only;omega,.inr ⟨by dsimp only;omega,rfl,by dsimp only;omega⟩⟩,bZ h0 [2] _ _ (by decide) ⟨(congrArg (fun l:List Nat=>some (FV.one (tv (.string (aS l))))) (by rw[List.drop_drop])),(congrArg (fun z:Nat=>some (FV.one (.sl 2 0 (dg 4294967296 z).length))) hpc.symm),rfl,trivial⟩ ⟨dS (congrArg (fun z:Nat=>some (⟨22,1,(aZ (dg 4294967296 z)).map .t⟩:Ob)) hpc),rfl⟩⟩
   refine sk ?_;refine sq ?_;refine rl ?_;refine o1 ?_;refine o1 ?_;refine o1 ?_ (hC:=(by rw[bO,List.length_drop];show f≤l.length-j;omega))
   refine WL.cast (t:=35) (u':=.string (aS ((l.drop j).take f))) rfl (congrArg Value.string ((lM _ 0 _).trans rfl)) ?_
   refine ca (rB (l:=((l.drop j).take f)) (mS hdg j f) (by rw[List.length_take,List.length_drop];omega) (by rw[List.length_take];omega)) zX ⟨a1 rfl,rfl⟩ (.tup [.one (tv (.int .i64 ((bF ((l.drop j).take f):Nat):Int))),.one (tv .nilIface)]) ?_
   (iterate 5 refine o1 ?_);refine nl ?_;refine sq ?_;have hpl:=mT hdg (j:=j) (f:=f) (by omega) (by omega)
   have hpc:=kQ (l:=l) (j:=j) (f:=f) (by omega) (by omega)
   have hl1:=oT hdg hj
   have hl2:=gT (bF (l.take j)) 1000000000
   have hl3:(dg 4294967296 1000000000).length≤1:=bG (by omega) (by decide)
   refine rl ?_;refine o1 ?_
   refine ca (rD (u:=bF (l.take j)) (m:=1000000000) (by omega) (by omega)) zY ⟨nA rfl (.sl rfl rfl (lT _) (bV _)),a1 rfl,rfl⟩ (.one (.t (sU false (dg 4294967296 (bF (l.take j)*1000000000))))) ?_
   refine o1 ?_;refine o1 ?_;refine WL.cast (t:=42) (u':=.int .u32 ((bF ((l.drop j).take f):Nat):Int)) rfl (dN (by omega)) ?_
   refine bs 1 ?_
   refine nY 2 (rE (u:=bF (l.take j)*1000000000) (x:=bF ((l.drop j).take f)) (by omega) (by omega)) rX ⟨a1 rfl,nA rfl (.sl (trs:=aZ [bF ((l.drop j).take f)]) rfl rfl rfl rfl),rfl⟩ ?_
   refine o1 ?_;refine nl ?_;refine rl ?_;refine o1 ?_;refine o1 ?_;refine o1 ?_ (hC:=(by rw[bO,List.length_drop];show f≤l.length-j;omega))
   refine WL.cast (t:=47) (u':=.string (aS ((l.drop j).drop f))) rfl (congrArg Value.string (jK _ _)) ?_;refine o1 ?_;refine nl ?_;refine rl ?_;refine o1 ?_;refine nl ?_
   exact⟨(j+f,9),by dsimp only;omega,⟨by dsimp only;omega,.inr ⟨by dsimp only;omega,rfl,by dsimp only;omega⟩⟩,bZ h0 [2] _ _ (by decide) ⟨(congrArg (fun l:List Nat=>some (FV.one (tv (.string (aS l))))) (by rw[List.drop_drop])),(congrArg (fun z:Nat=>some (FV.one (.sl 2 0 (dg 4294967296 z).length))) hpc.symm),rfl,trivial⟩ ⟨dS (congrArg (fun z:Nat=>some (⟨22,1,(aZ (dg 4294967296 z)).map .t⟩:Ob)) hpc),rfl⟩⟩
  refine ex ?_;refine sq ?_;refine rl ?_;(iterate 3 refine o1 ?_);refine nl ?_;refine rt ?_;have hjl:=yU h7
  have he:=Bb hg (by omega)
  exact en (.inl rfl) rfl (gZ (.cons (.one (.sl (trs:=aZ (dg 4294967296 (bF (l.take j)))) rfl rfl (cM _) (bV _))) (.cons (cF _) .nil))) (by decide) (fun _=>⟨.inl ⟨rfl,kB _⟩,trivial,trivial⟩) (by rw[he,rC he,List.take_of_length_le hjl];rfl)
 (iterate 3 refine dY ?_);refine o1 ?_;refine o1 ?_;refine nl ?_;refine gY rfl ?_;refine rl ?_;refine o1 ?_
 refine ca (vW hn) Lw ⟨a1 rfl,a1 rfl,rfl⟩ (.one (tv (.string ⟨(Lib.trimS (aS l).data.toList [48,49,50,51,52,53,54,55,56,57]).toArray⟩))) ?_;refine o1 ?_
 refine WL.cast (t:=20) (u':=.bool (!nD l)) rfl (congrArg Value.bool (congrArg not (yR hl))) ?_;refine o1 ?_;refine nl ?_;refine mY rfl (fun h9=>?_) (fun h9=>?_)
 ·refine sq ?_;refine rl ?_;refine o1 ?_;refine o1 ?_;refine nl ?_;refine rt ?_;have he:=tQ (Ba (Gq h9))
  exact en (.inl rfl) rfl (gZ (.cons (.one (.nil (t:=22) (z:=1))) (.cons (cF _) .nil))) (by decide) (fun _=>⟨.inl ⟨rfl,trivial⟩,trivial,trivial⟩) (by rw[he,oS (by rw[he];decide)];rfl)
 refine sq ?_;have hg:=wB h1 (.inl (yE h2)) (yE h9)
 have hdg:=Ds hg
 refine rl ?_;refine o1 ?_;refine o1 ?_;refine WL.cast (t:=23) (u':=.int .i64 ((l.length:Nat):Int)) rfl (congrArg (fun n:Nat=>Value.int .i64 (n:Int)) (bO _)) ?_
 refine o1 ?_;refine o1 ?_;refine nl ?_;refine eL rfl (fun h10=>?_) (fun h10=>?_)
 ·refine sq ?_;refine rl ?_;refine o1 ?_;refine o1 ?_;refine nl ?_;refine rt ?_;have he:=Nn hg (by omega)
  exact en (.inl rfl) rfl (gZ (.cons (.one (.nil (t:=22) (z:=1))) (.cons (cF _) .nil))) (by decide) (fun _=>⟨.inl ⟨rfl,trivial⟩,trivial,trivial⟩) (by rw[he,oS (by rw[he];decide)];rfl)
 refine sk ?_;refine sq ?_;refine rl ?_;refine o1 ?_;refine nl ?_;refine sq ?_;refine sq ?_;refine rl ?_;refine o1 ?_;refine o1 ?_
 refine WL.cast (t:=26) (u':=.int .i64 ((l.length:Nat):Int)) rfl (congrArg (fun n:Nat=>Value.int .i64 (n:Int)) (bO _)) ?_
 refine o1 ?_;refine WL.cast (t:=27) (u':=.int .i64 ((l.length%9:Nat):Int)) rfl (dN (sF _ 9)) ?_;refine o1 ?_;refine nl ?_;refine bl ?_
 refine lp (γ:=Nat×Nat) (fun s=>dU [(0,.one (tv (.string (aS (l.drop s.1))))),(4,.one (.sl 0 0 ((dg 4294967296 (bF (l.take s.1))).length))),(5,.one (tv (.int .i64 ((s.2:Nat):Int))))]) (fun s=>[(⟨22,1,(aZ (dg 4294967296 (bF (l.take s.1)))).map .t⟩:Ob)].map some) (fun s=>s.1≤l.length∧(s.1=0∧s.2=l.length%9∨0<s.1∧s.2=9∧(l.length-s.1)%9=0)) (fun s=>l.length-s.1) (0,l.length%9) ⟨Nat.zero_le _,.inl ⟨rfl,rfl⟩⟩ ((nr (i:=4) 0 22 1 rfl rfl rfl rfl).trans (bZ h0 [0] _ _ (by decide) ⟨rfl,rfl,rfl,trivial⟩ ⟨dS (l:=[]) rfl,rfl⟩)) ?_
 rintro⟨j,f⟩ ⟨hj,hf⟩;dsimp only at hj hf⊢;refine sq ?_;refine sq ?_;refine rl ?_;refine o1 ?_;refine o1 ?_
 refine WL.cast (t:=29) (u':=.bool (!decide (l.drop j=[]))) rfl (congrArg Value.bool (congrArg not (lN (mP hl j)))) ?_;refine nl ?_
 refine mY rfl (fun h11=>?_) (fun h11=>?_)
 ·refine sk ?_;refine sq ?_;refine bl ?_;refine sq ?_;refine sq ?_;have hjl:=yT h11
  refine rl ?_;refine o1 ?_;refine o1 ?_;refine nl ?_;refine eL rfl (fun h12=>?_) (fun h12=>?_)
  ·refine rl ?_;refine o1 ?_;refine nl ?_;refine sq ?_;refine rl ?_;refine o1 ?_;refine o1 ?_;refine o1 ?_ (hC:=(by rw[bO,List.length_drop];show 9≤l.length-j;omega))
   refine WL.cast (t:=35) (u':=.string (aS ((l.drop j).take 9))) rfl (congrArg Value.string ((lM _ 0 _).trans rfl)) ?_
   refine ca (rB (l:=((l.drop j).take 9)) (mS hdg j 9) (by rw[List.length_take,List.length_drop];omega) (by rw[List.length_take];omega)) zX ⟨a1 rfl,rfl⟩ (.tup [.one (tv (.int .i64 ((bF ((l.drop j).take 9):Nat):Int))),.one (tv .nilIface)]) ?_
   (iterate 5 refine o1 ?_);refine nl ?_;refine sq ?_;have hpl:=mT hdg (j:=j) (f:=9) (by omega) (by omega)
   have hpc:=kQ (l:=l) (j:=j) (f:=9) (by omega) (by omega)
   have hl1:=oT hdg hj
   have hl2:=gT (bF (l.take j)) 1000000000
   have hl3:(dg 4294967296 1000000000).length≤1:=bG (by omega) (by decide)
   refine rl ?_;refine o1 ?_
   refine ca (rD (u:=bF (l.take j)) (m:=1000000000) (by omega) (by omega)) zY ⟨nA rfl (.sl rfl rfl (lT _) (bV _)),a1 rfl,rfl⟩ (.one (.t (sU false (dg 4294967296 (bF (l.take j)*1000000000))))) ?_
   refine o1 ?_;refine o1 ?_;refine WL.cast (t:=42) (u':=.int .u32 ((bF ((l.drop j).take 9):Nat):Int)) rfl (dN (by omega)) ?_
   refine bs 1 ?_
   refine nY 2 (rE (u:=bF (l.take j)*1000000000) (x:=bF ((l.drop j).take 9)) (by omega) (by omega)) rX ⟨a1 rfl,nA rfl (.sl (trs:=aZ [bF ((l.drop j).take 9)]) rfl rfl rfl rfl),rfl⟩ ?_
   refine o1 ?_;refine nl ?_;refine rl ?_;refine o1 ?_;refine o1 ?_;refine o1 ?_ (hC:=(by rw[bO,List.length_drop];show 9≤l.length-j;omega))
   refine WL.cast (t:=47) (u':=.string (aS ((l.drop j).drop 9))) rfl (congrArg Value.string (jK _ _)) ?_;refine o1 ?_;refine nl ?_;refine rl ?_;refine o1 ?_;refine nl ?_
   exact⟨(j+9,9),by dsimp only;omega,⟨by dsimp only;omega,.inr ⟨by dsimp only;omega,rfl,by dsimp only;omega⟩⟩,bZ h0 [2] _ _ (by decide) ⟨(congrArg (fun l:List Nat=>some (FV.one (tv (.string (aS l))))) (by rw[List.drop_drop])),(congrArg (fun z:Nat=>some (FV.one (.sl 2 0 (dg 4294967296 z).length))) hpc.symm),rfl,trivial⟩ ⟨dS (congrArg (fun z:Nat=>some (⟨22,1,(aZ (dg 4294967296 z)).map .t⟩:Ob)) hpc),rfl⟩⟩
  refine sk ?_;refine sq ?_;refine rl ?_;refine o1 ?_;refine o1 ?_;refine o1 ?_ (hC:=(by rw[bO,List.length_drop];show f≤l.length-j;omega))
  refine WL.cast (t:=35) (u':=.string (aS ((l.drop j).take f))) rfl (congrArg Value.string ((lM _ 0 _).trans rfl)) ?_
  refine ca (rB (l:=((l.drop j).take f)) (mS hdg j f) (by rw[List.length_take,List.length_drop];omega) (by rw[List.length_take];omega)) zX ⟨a1 rfl,rfl⟩ (.tup [.one (tv (.int .i64 ((bF ((l.drop j).take f):Nat):Int))),.one (tv .nilIface)]) ?_
  (iterate 5 refine o1 ?_);refine nl ?_;refine sq ?_;have hpl:=mT hdg (j:=j) (f:=f) (by omega) (by omega)
  have hpc:=kQ (l:=l) (j:=j) (f:=f) (by omega) (by omega)
  have hl1:=oT hdg hj
  have hl2:=gT (bF (l.take j)) 1000000000
  have hl3:(dg 4294967296 1000000000).length≤1:=bG (by omega) (by decide)
  refine rl ?_;refine o1 ?_
  refine ca (rD (u:=bF (l.take j)) (m:=1000000000) (by omega) (by omega)) zY ⟨nA rfl (.sl rfl rfl (lT _) (bV _)),a1 rfl,rfl⟩ (.one (.t (sU false (dg 4294967296 (bF (l.take j)*1000000000))))) ?_
  refine o1 ?_;refine o1 ?_;refine WL.cast (t:=42) (u':=.int .u32 ((bF ((l.drop j).take f):Nat):Int)) rfl (dN (by omega)) ?_
  refine bs 1 ?_
  refine nY 2 (rE (u:=bF (l.take j)*1000000000) (x:=bF ((l.drop j).take f)) (by omega) (by omega)) rX ⟨a1 rfl,nA rfl (.sl (trs:=aZ [bF ((l.drop j).take f)]) rfl rfl rfl rfl),rfl⟩ ?_
  refine o1 ?_;refine nl ?_;refine rl ?_;refine o1 ?_;refine o1 ?_;refine o1 ?_ (hC:=(by rw[bO,List.length_drop];show f≤l.length-j;omega))
  refine WL.cast (t:=47) (u':=.string (aS ((l.drop j).drop f))) rfl (congrArg Value.string (jK _ _)) ?_;refine o1 ?_;refine nl ?_;refine rl ?_;refine o1 ?_;refine nl ?_
  exact⟨(j+f,9),by dsimp only;omega,⟨by dsimp only;omega,.inr ⟨by dsimp only;omega,rfl,by dsimp only;omega⟩⟩,bZ h0 [2] _ _ (by decide) ⟨(congrArg (fun l:List Nat=>some (FV.one (tv (.string (aS l))))) (by rw[List.drop_drop])),(congrArg (fun z:Nat=>some (FV.one (.sl 2 0 (dg 4294967296 z).length))) hpc.symm),rfl,trivial⟩ ⟨dS (congrArg (fun z:Nat=>some (⟨22,1,(aZ (dg 4294967296 z)).map .t⟩:Ob)) hpc),rfl⟩⟩
 refine ex ?_;refine sq ?_;refine rl ?_;(iterate 3 refine o1 ?_);refine nl ?_;refine rt ?_;have hjl:=yU h11
 have he:=Bb hg (by omega)
 exact en (.inl rfl) rfl (gZ (.cons (.one (.sl (trs:=aZ (dg 4294967296 (bF (l.take j)))) rfl rfl (cM _) (bV _))) (.cons (cF _) .nil))) (by decide) (fun _=>⟨.inl ⟨rfl,kB _⟩,trivial,trivial⟩) (by rw[he,rC he,List.take_of_length_le hjl];rfl)
theorem Js {l:List Nat}(hl:Lim 256 l) (hn:l.length≤1000000):aI true Tryz.prog 22 [] [.one (tv (.string (aS l)))] (aX (.tup [kO (jB l),.one (tv (.int .i64 (kR l)))])):=by
 refine dV Tryz.func22 rfl Tryz.ntmps22 rfl aD rfl fun N9 w9 c0 h0=>?_
 refine sq ?_;refine rl ?_;refine al 0 ?_;refine o1 ?_;refine nl ?_;refine sq ?_;refine rl ?_;refine o1 ?_
 refine ca (Nv hl) Sc ⟨a1 rfl,a1 rfl,rfl⟩ (.tup [.one (tv (.string (aS (fO l)))),.one (tv (.bool (decide (l.take 1=[45]))))]) ?_;(iterate 5 refine o1 ?_);refine nl ?_;refine sq ?_
 refine rl ?_;refine o1 ?_;refine nY 1 (Jr (Jp hl) (Nat.le_trans Jq hn)) Sx ⟨a1 rfl,rfl⟩ ?_;(iterate 5 refine o1 ?_);refine nl ?_;refine sq ?_;refine bl ?_;refine sq ?_
 refine rl ?_;(iterate 3 refine o1 ?_);refine nl ?_;refine eL rfl (fun h1=>?_) (fun h1=>?_)
 ·refine sq ?_;refine rl ?_;refine o1 ?_;refine o1 ?_;refine st ?_;refine o1 ?_;refine nl ?_;refine rt ?_;have hE:kR l=hG (fO l):=if_neg h1
  have hV:jB l=0:=if_neg (by rw[hE];exact h1)
  exact en (.inl rfl) rfl (gZ (.cons (.agg (.cons (.id rfl) (.cons (.nil (t:=22) (z:=1)) .nil))) (.cons (cF _) .nil))) (by decide) (fun _=>⟨cU 0,trivial,trivial⟩) (by rw[hE,hV];rfl)
 refine sq ?_;refine rl ?_;refine o1 ?_;refine o1 ?_;refine WL.splitb (t:=25) rfl (fun h2=>?_) (fun h2=>?_)
 ·(iterate 5 refine o1 ?_);refine nl ?_;refine eL rfl (fun h3=>?_) (fun h3=>?_)
  ·refine sq ?_;refine rl ?_;refine o1 ?_;refine st ?_;refine o1 ?_;refine nl ?_;refine rt ?_;have he0:hG (fO l)=0:=by omega
   have hv0:=rC he0
   have h70:bF (fO l)=0:=by rw[←hv0];exact(cV (B:=4294967296) (by omega)).1 (List.eq_nil_of_length_eq_zero (by omega))
   have hE:kR l=2:=by rw[kR,if_pos he0,if_pos ⟨of_decide_eq_true h2,h70⟩]
   have hV:jB l=0:=if_neg (by rw[hE];decide)
   exact en (.inl rfl) rfl (gZ (.cons (.agg (.cons (.id rfl) (.cons (.nil (t:=22) (z:=1)) .nil))) (.cons (cF _) .nil))) (by decide) (fun _=>⟨cU 0,trivial,trivial⟩) (by rw[hE,hV];rfl)
  refine sk ?_;refine sq ?_;have he0:hG (fO l)=0:=by omega
  have hv0:=rC he0
  have hE:kR l=0:=by rw[kR,if_pos he0,if_neg];rintro⟨_,h9⟩;rw[←hv0]at h9;rw[h9]at h3;exact h3 rfl
  have hK:cG (decide (l.take 1=[45])) (wA (fO l))=jB l:=by rw[jB,if_pos hE,if_pos (of_decide_eq_true h2),h2,hv0];rfl
  refine rl ?_;refine o1 ?_;refine o1 ?_;refine cm 2 [1] (dA (b:=(decide (l.take 1=[45]))) (m:=wA (fO l)) (K:=jB l) hK) gM ⟨dS rfl,rfl⟩ ⟨rfl,rfl,rfl⟩ ?_;refine st ?_
  refine o1 ?_;refine nl ?_;refine rt ?_
  exact en (.inl rfl) rfl (gZ (.cons (.agg (.cons (.id rfl) (.cons (.sl (trs:=aZ (dg 4294967296 ((jB l)).natAbs)) rfl rfl (cM _) (bV _)) .nil))) (.cons (cF _) .nil))) (by decide) (fun _=>⟨cU (jB l),trivial,trivial⟩) (by rw[hE];rfl)
 (iterate 3 refine dY ?_);refine o1 ?_;refine o1 ?_;refine nl ?_;refine gY rfl ?_;refine sk ?_;refine sq ?_;have he0:hG (fO l)=0:=by omega
 have hv0:=rC he0
 have hE:kR l=0:=by rw[kR,if_pos he0,if_neg (fun h=>of_decide_eq_false h2 h.1)]
 have hK:cG (decide (l.take 1=[45])) (wA (fO l))=jB l:=by rw[jB,if_pos hE,if_neg (of_decide_eq_false h2),h2,hv0];rfl
 refine rl ?_;refine o1 ?_;refine o1 ?_;refine cm 2 [1] (dA (b:=(decide (l.take 1=[45]))) (m:=wA (fO l)) (K:=jB l) hK) gM ⟨dS rfl,rfl⟩ ⟨rfl,rfl,rfl⟩ ?_;refine st ?_
 refine o1 ?_;refine nl ?_;refine rt ?_
 exact en (.inl rfl) rfl (gZ (.cons (.agg (.cons (.id rfl) (.cons (.sl (trs:=aZ (dg 4294967296 ((jB l)).natAbs)) rfl rfl (cM _) (bV _)) .nil))) (.cons (cF _) .nil))) (by decide) (fun _=>⟨cU (jB l),trivial,trivial⟩) (by rw[hE];rfl)
theorem pA {k:Int}(h:k.natAbs<4294967296^4):(dg 4294967296 k.natAbs).length≤4:=bG (by omega) h
theorem Jt {a:Zi}(ha:a.x.length≤1000000):aI true Tryz.prog 28 [] [gF a,gF a] (aX (.one (tv (.bool true)))):=Az a▸Nu ha ha
theorem Nw {a:Zi}{k:Int}(ha:Zn a k):aI true Tryz.prog 38 [] [gF a,gF a] (aX (.one (tv (.int .i64 0)))):=by
 have h:=jF ha.g ha.g (by rw[Int.sub_self];exact Nat.zero_le _)
 rw[Int.sub_self]at h
 exact h
theorem jC {k:Int}(h:k.natAbs<4294967296^4):Zn (.of k) k:=Zn.of (Nat.le_trans (pA h) (by omega))
theorem Fx {a b q r:Int}(ha:a.natAbs<4294967296^4) (hb:b.natAbs<4294967296^4) (h0:b≠0) (hq:a.fdiv b=q) (hr:a.fmod b=r):aI true Tryz.prog 33 [] [kF a,kF b] (aX (.tup [kO q,kO r,.one (tv (.int .i64 0))])):=by
 subst hq hr
 exact vY (jC ha).g (jC hb).g h0
theorem Qe {a b q:Int}(ha:a.natAbs<4294967296^4) (hb:b.natAbs<4294967296^4) (hq:a*b=q):aI true Tryz.prog 37 [] [kF a,kF b] (aX (kO q)):=by
 subst hq
 exact Gv (jC ha).g (jC hb).g
theorem Gx {a b q:Int}(ha:a.natAbs<4294967296^4) (hb:b.natAbs<4294967296^4) (hq:((Int.gcd a b:Nat):Int)=q):aI true Tryz.prog 41 [] [kF a,kF b] (aX (kO q)):=by
 subst hq
 exact tP (jC ha).g (jC hb).g
theorem Nx {n k:Nat}(h:4294967296^k≤n):k<(dg 4294967296 n).length:=by
 have h1:=iI (B:=4294967296) (n:=n) (by omega)
 exact(Nat.pow_lt_pow_iff_right (a:=4294967296) (by omega)).1 (Nat.lt_of_le_of_lt h h1)
def wd:List Nat:=[6,1,6,1,5,5,9,0,7,3,7,0,4,4,7,6,4,4,8,1]
theorem Qf:dg 10 18446744073709551616=wd:=(Gc (l:=wd) (by omega) (fun d hd=>by revert d;decide) (by decide)).symm.trans (by decide)
theorem Qg:gC (-18446744073709551616)=[45,49,56,52,52,54,55,52,52,48,55,51,55,48,57,53,53,49,54,49,54]:=by
 have e:(-18446744073709551616:Int).natAbs=18446744073709551616:=by decide
 unfold gC tx
 rw[if_pos (by decide),e,if_neg (by decide),Qf]
 decide
theorem Qh:((aS (gC (-18446744073709551616))).toList==(⟨#[45,49,56,52,52,54,55,52,52,48,55,51,55,48,57,53,53,49,54,49,54]⟩:ByteArray).toList)=true:=by
 rw[Qg]
 exact(tL (l:=[45,49,56,52,52,54,55,52,52,48,55,51,55,48,57,53,53,49,54,49,54]) (l':=[45,49,56,52,52,54,55,52,52,48,55,51,55,48,57,53,53,49,54,49,54]) (fun d hd=>by revert d;decide) (fun d hd=>by revert d;decide)).trans (decide_eq_true rfl)
theorem mU {a:Zi}{k:Int}(ha:a.x.length≤1000000) (hk:Zn a k):aI true Tryz.prog 35 [] [gF a,gF a] (aX (.one (tv (.bool true)))):=by
 refine dV Tryz.func35 rfl Tryz.ntmps35 rfl aD rfl fun N9 w9 c0 h0=>?_
 refine sq ?_;refine rl ?_;refine bx 0 ?_;refine bx 1 ?_;refine o1 ?_;refine nl ?_;refine sq ?_;refine rd [0,1] (fun i=>[10].contains i) mixed ?_
 refine aP 0 ?_;refine aP 1 ?_;refine aO 2 rfl (Qd ha) Rr ⟨aA rfl,rfl⟩ (gF a) ?_;refine aO 3 rfl (Jt ha) Rs ⟨aA rfl,aA rfl,rfl⟩ (.one (tv (.bool true))) ?_;refine df 4 ?_
 refine aP 5 ?_;refine aP 6 ?_;refine aO 7 rfl (Nw hk) mK ⟨aA rfl,aA rfl,rfl⟩ (.one (tv (.int .i64 0))) ?_;refine df 8 ?_
 refine WD.cast (t:=13) (u':=.bool true) rfl (congrArg Value.bool rfl) ?_;refine df 9 ?_;refine Cb 10 (by kernel_rfl) rfl rfl aD rfl (by trivial) ?_ (fun h=>by first | rfl | cases h)
 refine bU ?_;refine rt ?_;exact fY (.inl rfl) rfl (rfl)
theorem eC:aI true Tryz.prog 21 [] [] (aX (.one (tv (.bool true)))):=by
 refine dV Tryz.func21 rfl Tryz.ntmps21 rfl aD rfl fun N9 w9 c0 h0=>?_
 refine sq ?_;refine rl ?_;refine o1 ?_;refine nl ?_;refine sq ?_;refine rl ?_;refine ca (eP (n:=(-7)) (by omega) (by omega)) eN ⟨a1 rfl,rfl⟩ (kF (-7)) ?_
 refine ca (eP (n:=2) (by omega) (by omega)) eN ⟨a1 rfl,rfl⟩ (kF 2) ?_
 refine ca (Fx (a:=(-7)) (b:=2) (q:=(-4)) (r:=1) (by decide) (by decide) (by decide) (by decide) (by decide)) jW ⟨aA rfl,aA rfl,rfl⟩ (.tup [kF (-4),kF 1,.one (tv (.int .i64 0))]) ?_
 (iterate 4 refine o1 ?_);refine al 0 ?_;refine al 1 ?_;refine st ?_;refine st ?_;refine o1 ?_;refine nl ?_;refine sq ?_;refine rl ?_
 refine ca (eP (n:=7) (by omega) (by omega)) eN ⟨a1 rfl,rfl⟩ (kF 7) ?_
 refine ca (eP (n:=(-2)) (by omega) (by omega)) eN ⟨a1 rfl,rfl⟩ (kF (-2)) ?_
 refine ca (Fx (a:=7) (b:=(-2)) (q:=(-4)) (r:=(-1)) (by decide) (by decide) (by decide) (by decide) (by decide)) jW ⟨aA rfl,aA rfl,rfl⟩ (.tup [kF (-4),kF (-1),.one (tv (.int .i64 0))]) ?_
 (iterate 4 refine o1 ?_);refine al 2 ?_;refine al 3 ?_;refine st ?_;refine st ?_;refine o1 ?_;refine nl ?_;refine sq ?_;refine rl ?_
 refine ca (eP (n:=(-7)) (by omega) (by omega)) eN ⟨a1 rfl,rfl⟩ (kF (-7)) ?_
 refine ca (eP (n:=(-2)) (by omega) (by omega)) eN ⟨a1 rfl,rfl⟩ (kF (-2)) ?_
 refine ca (Fx (a:=(-7)) (b:=(-2)) (q:=3) (r:=(-1)) (by decide) (by decide) (by decide) (by decide) (by decide)) jW ⟨aA rfl,aA rfl,rfl⟩ (.tup [kF 3,kF (-1),.one (tv (.int .i64 0))]) ?_
 (iterate 4 refine o1 ?_);refine al 4 ?_;refine al 5 ?_;refine st ?_;refine st ?_;refine o1 ?_;refine nl ?_;refine sq ?_;refine rl ?_
 refine ca (eP (n:=(-4294967296)) (by omega) (by omega)) eN ⟨a1 rfl,rfl⟩ (kF (-4294967296)) ?_
 refine ca (eP (n:=4294967296) (by omega) (by omega)) eN ⟨a1 rfl,rfl⟩ (kF 4294967296) ?_
 refine ca (Qe (a:=(-4294967296)) (b:=4294967296) (q:=(-18446744073709551616)) (by decide) (by decide) (by decide)) fC ⟨aA rfl,aA rfl,rfl⟩ (kF (-18446744073709551616)) ?_
 refine al 6 ?_;refine st ?_;refine nl ?_;refine sq ?_;refine rl ?_;refine ld ?_
 refine ca (Jn (a:=.of (-18446744073709551616)) (k:=(-18446744073709551616)) (jC (by decide)) (Nx (by decide))) Rq ⟨aA rfl,rfl⟩ (.tup [.one (tv (.int .i64 0)),.one (tv (.bool false))]) ?_
 (iterate 5 refine o1 ?_);refine nl ?_;refine sq ?_;refine rd [0,1,2,3,4,5,6] (fun i=>[67].contains i) mixed ?_
 refine dv 0 ?_;refine dv 1 ?_;refine WD.cast (t:=43) (u':=.bool true) rfl (congrArg Value.bool rfl) ?_;refine dv 2 ?_;refine dv 3 ?_;refine dv 4 ?_
 refine WD.cast (t:=46) (u':=.bool true) rfl (congrArg Value.bool rfl) ?_;refine dv 5 ?_;refine dv 6 ?_;refine dv 7 ?_;refine dv 8 ?_
 refine WD.cast (t:=50) (u':=.bool true) rfl (congrArg Value.bool rfl) ?_;refine dv 9 ?_;refine dv 10 ?_;refine aP 11 ?_
 refine aO 12 rfl (eP (n:=(-4)) (by omega) (by omega)) eN ⟨a1 rfl,rfl⟩ (kF (-4)) ?_
 refine aO 13 rfl (mU (a:=.of (-4)) (k:=(-4)) (Nat.le_trans (pA (by decide)) (by omega)) (jC (by decide))) eK ⟨aA rfl,aA rfl,rfl⟩ (.one (tv (.bool true))) ?_
 refine df 14 ?_;refine df 15 ?_;refine aP 16 ?_;refine aO 17 rfl (eP (n:=1) (by omega) (by omega)) eN ⟨a1 rfl,rfl⟩ (kF 1) ?_
 refine aO 18 rfl (mU (a:=.of 1) (k:=1) (Nat.le_trans (pA (by decide)) (by omega)) (jC (by decide))) eK ⟨aA rfl,aA rfl,rfl⟩ (.one (tv (.bool true))) ?_
 refine df 19 ?_;refine df 20 ?_;refine aP 21 ?_;refine aO 22 rfl (eP (n:=(-4)) (by omega) (by omega)) eN ⟨a1 rfl,rfl⟩ (kF (-4)) ?_
 refine aO 23 rfl (mU (a:=.of (-4)) (k:=(-4)) (Nat.le_trans (pA (by decide)) (by omega)) (jC (by decide))) eK ⟨aA rfl,aA rfl,rfl⟩ (.one (tv (.bool true))) ?_
 refine df 24 ?_;refine df 25 ?_;refine aP 26 ?_;refine aO 27 rfl (eP (n:=(-1)) (by omega) (by omega)) eN ⟨a1 rfl,rfl⟩ (kF (-1)) ?_
 refine aO 28 rfl (mU (a:=.of (-1)) (k:=(-1)) (Nat.le_trans (pA (by decide)) (by omega)) (jC (by decide))) eK ⟨aA rfl,aA rfl,rfl⟩ (.one (tv (.bool true))) ?_
 refine df 29 ?_;refine df 30 ?_;refine aP 31 ?_;refine aO 32 rfl (eP (n:=3) (by omega) (by omega)) eN ⟨a1 rfl,rfl⟩ (kF 3) ?_
 refine aO 33 rfl (mU (a:=.of 3) (k:=3) (Nat.le_trans (pA (by decide)) (by omega)) (jC (by decide))) eK ⟨aA rfl,aA rfl,rfl⟩ (.one (tv (.bool true))) ?_
 refine df 34 ?_;refine df 35 ?_;refine aP 36 ?_;refine aO 37 rfl (eP (n:=(-1)) (by omega) (by omega)) eN ⟨a1 rfl,rfl⟩ (kF (-1)) ?_
 refine aO 38 rfl (mU (a:=.of (-1)) (k:=(-1)) (Nat.le_trans (pA (by decide)) (by omega)) (jC (by decide))) eK ⟨aA rfl,aA rfl,rfl⟩ (.one (tv (.bool true))) ?_
 refine df 39 ?_;refine df 40 ?_;refine aO 41 rfl (eP (n:=(-12)) (by omega) (by omega)) eN ⟨a1 rfl,rfl⟩ (kF (-12)) ?_
 refine aO 42 rfl (eP (n:=18) (by omega) (by omega)) eN ⟨a1 rfl,rfl⟩ (kF 18) ?_
 refine aO 43 rfl (Gx (a:=(-12)) (b:=18) (q:=6) (by decide) (by decide) (by decide)) vB ⟨aA rfl,aA rfl,rfl⟩ (kF 6) ?_
 refine aO 44 rfl (eP (n:=6) (by omega) (by omega)) eN ⟨a1 rfl,rfl⟩ (kF 6) ?_
 refine aO 45 rfl (mU (a:=.of 6) (k:=6) (Nat.le_trans (pA (by decide)) (by omega)) (jC (by decide))) eK ⟨aA rfl,aA rfl,rfl⟩ (.one (tv (.bool true))) ?_
 refine df 46 ?_;refine df 47 ?_;refine aO 48 rfl (eP (n:=0) (by omega) (by omega)) eN ⟨a1 rfl,rfl⟩ (kF 0) ?_
 refine aO 49 rfl (eP (n:=(-5)) (by omega) (by omega)) eN ⟨a1 rfl,rfl⟩ (kF (-5)) ?_
 refine aO 50 rfl (Gx (a:=0) (b:=(-5)) (q:=5) (by decide) (by decide) (by decide)) vB ⟨aA rfl,aA rfl,rfl⟩ (kF 5) ?_
 refine aO 51 rfl (eP (n:=5) (by omega) (by omega)) eN ⟨a1 rfl,rfl⟩ (kF 5) ?_
 refine aO 52 rfl (mU (a:=.of 5) (k:=5) (Nat.le_trans (pA (by decide)) (by omega)) (jC (by decide))) eK ⟨aA rfl,aA rfl,rfl⟩ (.one (tv (.bool true))) ?_
 refine df 53 ?_;refine df 54 ?_;refine aP 55 ?_
 refine aO 56 rfl (tR (a:=.of (-18446744073709551616)) (k:=(-18446744073709551616)) (jC (by decide)) (Nat.le_trans (pA (by decide)) (by omega))) zT ⟨aA rfl,rfl⟩ (.one (tv (.string (aS (gC (-18446744073709551616)))))) ?_
 refine df 57 ?_;refine WD.cast (t:=99) (u':=.bool true) rfl (congrArg Value.bool Qh) ?_;refine df 58 ?_;refine df 59 ?_;refine dv 60 ?_;refine dv 61 ?_
 refine WD.cast (t:=103) (u':=.bool true) rfl (congrArg Value.bool rfl) ?_;refine df 62 ?_;refine df 63 ?_;refine dv 64 ?_;refine dv 65 ?_;refine df 66 ?_
 refine Cb 67 (by kernel_rfl) rfl rfl aD rfl (by trivial) ?_ (fun h=>by first | rfl | cases h)
 refine bU ?_;refine rt ?_;exact fY (.inl rfl) rfl (rfl)
theorem Dx {xs ys:List Nat}(hx:Lim 4294967296 xs) (hy:Lim 4294967296 ys) (h:xs.length≤549755813888) (h':ys.length≤549755813888) (h0:vl 4294967296 ys=0):aI true Tryz.prog 45 [] [.one (.t (sU false xs)),.one (.t (sU false ys))] (aX (.tup [.one (.t (sU true [])),.one (.t (sU true [])),.one (tv (.int .i64 20))])):=by
 intro N w cs us hL
 obtain⟨rfl,hf⟩:=kC hL
 obtain⟨u,v,rfl,h1,h2⟩:=mQ hf
 obtain⟨A,c,rfl,u1⟩:=dL h1 hx fun b hb=>hb.1
 obtain⟨B,d,rfl,u2⟩:=dL h2 hy fun b hb=>hb.1
 refine(qS A B _ _ c d xs ys w u1 u2 h h' h0).mono ?_
 rintro e W ⟨A1,n1,c1,A2,n2,c2,rfl,ho,ho2,hap,hb⟩
 obtain⟨y1,a1,a2,a3,a4⟩:=iT (N:=fun b=>true=false∧(b<W.heap.size∧b∉VT.fpL [])∧(N b∨w.heap.size≤b)) ho
 obtain⟨y2,b1,b2,b3,b4⟩:=iT (N:=fun b=>true=false∧(b<W.heap.size∧b∉VT.fpL [])∧(N b∨w.heap.size≤b)) ho2
 refine .mk0 (y:=[y1,y2,.w (.int .i64 20)]) rfl hb (by simp only[VT.okL,VT.ok];exact⟨a3,b3,trivial,trivial⟩) ?_ (fun b hb'=>?_) ?_
 ·simp only[VT.fpL,VT.fp,a4,b4,List.append_nil]
  rw[List.nodup_append]
  refine⟨kD ..,kD ..,fun x hx y hy e=>?_⟩
  subst e
  rcases A1 with _ | a
  ·simp[Value.ownBlock]at hx
  rcases A2 with _ | b
  ·simp[Value.ownBlock]at hy
  simp[Value.ownBlock]at hx hy
  exact hap a b rfl rfl (by rw[←hx,←hy])
 ·simp only[VT.fpL,VT.fp,a4,b4,List.append_nil]at hb'
  rcases List.mem_append.1 hb' with hb' | hb'
  ·exact ho.blk b hb'
  exact ho2.blk b hb'
 refine⟨[_,_,_],rfl,?_⟩
 exact⟨_,_,[y1],[y2,.w (.int .i64 20)],rfl,rfl,⟨y1,rfl,a1.symm,eA (fun _ _=>rfl) (fun b hb=>absurd hb.1 (by simp)) _ _ a2⟩,_,_,[y2],[.w (.int .i64 20)],rfl,rfl,⟨y2,rfl,b1.symm,eA (fun _ _=>rfl) (fun b hb=>absurd hb.1 (by simp)) _ _ b2⟩,_,_,[.w (.int .i64 20)],[],rfl,rfl,⟨_,rfl,rfl,by simp[CR,tv,OR]⟩,rfl,rfl⟩
theorem Dy {a b:Zi}{k:Int}(ha:Zg a k) (hb:Zg b 0):aI true Tryz.prog 33 [] [gF a,gF b] (aX (.tup [kO 0,kO 0,.one (tv (.int .i64 20))])):=by
 refine dV Tryz.func33 rfl Tryz.ntmps33 rfl aD rfl fun N9 w9 c0 h0=>?_
 have hkl:=ha.len
 refine sq ?_;refine rl ?_;refine bx 0 ?_;refine bx 1 ?_;refine al 2 ?_;refine al 3 ?_;refine o1 ?_;refine nl ?_
 refine md (γ:=Unit) (fun _=>dU [(4,.one (.pt 0 0)),(5,.one (.pt 1 0)),(7,.one (.pt 2 0)),(8,.one (.pt 3 0))]) (fun _=>([⟨44,0,[tv (.bool false),tv (.slice none 0 0)]⟩,⟨44,0,[tv (.bool false),tv (.slice none 0 0)]⟩,⟨103,0,[tv (.bool (aT (k))),.t (sU false (dg 4294967296 (k).natAbs))]⟩,⟨103,0,[tv (.bool (aT ((0:Int)))),.t (sU false (dg 4294967296 ((0:Int)).natAbs))]⟩]:List Ob).map some) (fun _=>True) ?_ fun _ _=>?_
 ·refine rd [0,1,2,3] (fun i=>[7].contains i) mixed ?_
  refine aP 0 ?_;refine aP 2 ?_;refine WO.three (i:=1) (j:=4) (m:=5) (by kernel_rfl) ?_ ?_ ?_
  ·refine eY 1 rfl (bC ha) bB ⟨aA rfl,rfl⟩ (kF (k)) ?_;refine WO.three (i:=3) (j:=4) (m:=5) (by kernel_rfl) ?_ ?_ ?_
   ·refine eY 3 rfl (bC hb) bB ⟨aA rfl,rfl⟩ (kF ((0:Int))) ?_;refine WO.two (i:=4) (j:=5) (by kernel_rfl) ?_ ?_
    ·refine cC (key:=4) 4 rfl rfl aD rfl ⟨rfl,rfl,rfl,rfl,trivial⟩ ?_;refine eW (key:=5) 5 (by kernel_rfl) rfl rfl aD rfl ⟨rfl,rfl,rfl,rfl,trivial⟩ ?_
     refine bQ 6 (by kernel_rfl) rfl rfl aD rfl rfl rfl rfl ⟨rfl,rfl,rfl,rfl,trivial⟩ ?_
     refine dst 7 ?_;refine bU ?_;exact⟨(),trivial,bZ h0 [2,3,4,5] _ _ (by decide) ⟨rfl,rfl,rfl,rfl,trivial⟩ ⟨oe rfl rfl,oe rfl rfl,oe rfl rfl,oe rfl rfl,rfl⟩⟩
    refine cC (key:=4) 5 rfl rfl aD rfl ⟨rfl,rfl,rfl,rfl,trivial⟩ ?_;refine eW (key:=5) 4 (by kernel_rfl) rfl rfl aD rfl ⟨rfl,rfl,rfl,rfl,trivial⟩ ?_
    refine bQ 6 (by kernel_rfl) rfl rfl aD rfl rfl rfl rfl ⟨rfl,rfl,rfl,rfl,trivial⟩ ?_
    refine dst 7 ?_;refine bU ?_;exact⟨(),trivial,bZ h0 [2,3,5,4] _ _ (by decide) ⟨rfl,rfl,rfl,rfl,trivial⟩ ⟨oe rfl rfl,oe rfl rfl,oe rfl rfl,oe rfl rfl,rfl⟩⟩
   ·refine cC (key:=4) 4 rfl rfl aD rfl ⟨rfl,rfl,rfl,rfl,trivial⟩ ?_;refine WO.two (i:=3) (j:=5) (by kernel_rfl) ?_ ?_
    ·refine eY 3 rfl (bC hb) bB ⟨aA rfl,rfl⟩ (kF ((0:Int))) ?_;refine eW (key:=5) 5 (by kernel_rfl) rfl rfl aD rfl ⟨rfl,rfl,rfl,rfl,trivial⟩ ?_
     refine bQ 6 (by kernel_rfl) rfl rfl aD rfl rfl rfl rfl ⟨rfl,rfl,rfl,rfl,trivial⟩ ?_
     refine dst 7 ?_;refine bU ?_;exact⟨(),trivial,bZ h0 [2,3,4,5] _ _ (by decide) ⟨rfl,rfl,rfl,rfl,trivial⟩ ⟨oe rfl rfl,oe rfl rfl,oe rfl rfl,oe rfl rfl,rfl⟩⟩
    refine cC (key:=5) 5 rfl rfl aD rfl ⟨rfl,rfl,rfl,rfl,trivial⟩ ?_;refine aO 3 rfl (bC hb) bB ⟨aA rfl,rfl⟩ (kF ((0:Int))) ?_
    refine bQ 6 (by kernel_rfl) rfl rfl aD rfl rfl rfl rfl ⟨rfl,rfl,rfl,rfl,trivial⟩ ?_
    refine dst 7 ?_;refine bU ?_;exact⟨(),trivial,bZ h0 [2,3,4,5] _ _ (by decide) ⟨rfl,rfl,rfl,rfl,trivial⟩ ⟨oe rfl rfl,oe rfl rfl,oe rfl rfl,oe rfl rfl,rfl⟩⟩
   refine cC (key:=4) 5 rfl rfl aD rfl ⟨rfl,rfl,rfl,rfl,trivial⟩ ?_;refine WO.two (i:=3) (j:=4) (by kernel_rfl) ?_ ?_
   ·refine eY 3 rfl (bC hb) bB ⟨aA rfl,rfl⟩ (kF ((0:Int))) ?_;refine eW (key:=5) 4 (by kernel_rfl) rfl rfl aD rfl ⟨rfl,rfl,rfl,rfl,trivial⟩ ?_
    refine bQ 6 (by kernel_rfl) rfl rfl aD rfl rfl rfl rfl ⟨rfl,rfl,rfl,rfl,trivial⟩ ?_
    refine dst 7 ?_;refine bU ?_;exact⟨(),trivial,bZ h0 [2,3,5,4] _ _ (by decide) ⟨rfl,rfl,rfl,rfl,trivial⟩ ⟨oe rfl rfl,oe rfl rfl,oe rfl rfl,oe rfl rfl,rfl⟩⟩
   refine cC (key:=5) 4 rfl rfl aD rfl ⟨rfl,rfl,rfl,rfl,trivial⟩ ?_;refine aO 3 rfl (bC hb) bB ⟨aA rfl,rfl⟩ (kF ((0:Int))) ?_
   refine bQ 6 (by kernel_rfl) rfl rfl aD rfl rfl rfl rfl ⟨rfl,rfl,rfl,rfl,trivial⟩ ?_
   refine dst 7 ?_;refine bU ?_;exact⟨(),trivial,bZ h0 [2,3,5,4] _ _ (by decide) ⟨rfl,rfl,rfl,rfl,trivial⟩ ⟨oe rfl rfl,oe rfl rfl,oe rfl rfl,oe rfl rfl,rfl⟩⟩
  ·refine cC (key:=4) 4 rfl rfl aD rfl ⟨rfl,rfl,rfl,rfl,trivial⟩ ?_;refine WO.two (i:=1) (j:=5) (by kernel_rfl) ?_ ?_
   ·refine eY 1 rfl (bC ha) bB ⟨aA rfl,rfl⟩ (kF (k)) ?_;refine WO.two (i:=3) (j:=5) (by kernel_rfl) ?_ ?_
    ·refine eY 3 rfl (bC hb) bB ⟨aA rfl,rfl⟩ (kF ((0:Int))) ?_;refine eW (key:=5) 5 (by kernel_rfl) rfl rfl aD rfl ⟨rfl,rfl,rfl,rfl,trivial⟩ ?_
     refine bQ 6 (by kernel_rfl) rfl rfl aD rfl rfl rfl rfl ⟨rfl,rfl,rfl,rfl,trivial⟩ ?_
     refine dst 7 ?_;refine bU ?_;exact⟨(),trivial,bZ h0 [2,3,4,5] _ _ (by decide) ⟨rfl,rfl,rfl,rfl,trivial⟩ ⟨oe rfl rfl,oe rfl rfl,oe rfl rfl,oe rfl rfl,rfl⟩⟩
    refine cC (key:=5) 5 rfl rfl aD rfl ⟨rfl,rfl,rfl,rfl,trivial⟩ ?_;refine aO 3 rfl (bC hb) bB ⟨aA rfl,rfl⟩ (kF ((0:Int))) ?_
    refine bQ 6 (by kernel_rfl) rfl rfl aD rfl rfl rfl rfl ⟨rfl,rfl,rfl,rfl,trivial⟩ ?_
    refine dst 7 ?_;refine bU ?_;exact⟨(),trivial,bZ h0 [2,3,4,5] _ _ (by decide) ⟨rfl,rfl,rfl,rfl,trivial⟩ ⟨oe rfl rfl,oe rfl rfl,oe rfl rfl,oe rfl rfl,rfl⟩⟩
   refine cC (key:=5) 5 rfl rfl aD rfl ⟨rfl,rfl,rfl,rfl,trivial⟩ ?_;refine aO 1 rfl (bC ha) bB ⟨aA rfl,rfl⟩ (kF (k)) ?_
   refine aO 3 rfl (bC hb) bB ⟨aA rfl,rfl⟩ (kF ((0:Int))) ?_;refine bQ 6 (by kernel_rfl) rfl rfl aD rfl rfl rfl rfl ⟨rfl,rfl,rfl,rfl,trivial⟩ ?_
   refine dst 7 ?_;refine bU ?_;exact⟨(),trivial,bZ h0 [2,3,4,5] _ _ (by decide) ⟨rfl,rfl,rfl,rfl,trivial⟩ ⟨oe rfl rfl,oe rfl rfl,oe rfl rfl,oe rfl rfl,rfl⟩⟩
  refine cC (key:=4) 5 rfl rfl aD rfl ⟨rfl,rfl,rfl,rfl,trivial⟩ ?_;refine WO.two (i:=1) (j:=4) (by kernel_rfl) ?_ ?_
  ·refine eY 1 rfl (bC ha) bB ⟨aA rfl,rfl⟩ (kF (k)) ?_;refine WO.two (i:=3) (j:=4) (by kernel_rfl) ?_ ?_
   ·refine eY 3 rfl (bC hb) bB ⟨aA rfl,rfl⟩ (kF ((0:Int))) ?_;refine eW (key:=5) 4 (by kernel_rfl) rfl rfl aD rfl ⟨rfl,rfl,rfl,rfl,trivial⟩ ?_
    refine bQ 6 (by kernel_rfl) rfl rfl aD rfl rfl rfl rfl ⟨rfl,rfl,rfl,rfl,trivial⟩ ?_
    refine dst 7 ?_;refine bU ?_;exact⟨(),trivial,bZ h0 [2,3,5,4] _ _ (by decide) ⟨rfl,rfl,rfl,rfl,trivial⟩ ⟨oe rfl rfl,oe rfl rfl,oe rfl rfl,oe rfl rfl,rfl⟩⟩
   refine cC (key:=5) 4 rfl rfl aD rfl ⟨rfl,rfl,rfl,rfl,trivial⟩ ?_;refine aO 3 rfl (bC hb) bB ⟨aA rfl,rfl⟩ (kF ((0:Int))) ?_
   refine bQ 6 (by kernel_rfl) rfl rfl aD rfl rfl rfl rfl ⟨rfl,rfl,rfl,rfl,trivial⟩ ?_
   refine dst 7 ?_;refine bU ?_;exact⟨(),trivial,bZ h0 [2,3,5,4] _ _ (by decide) ⟨rfl,rfl,rfl,rfl,trivial⟩ ⟨oe rfl rfl,oe rfl rfl,oe rfl rfl,oe rfl rfl,rfl⟩⟩
  refine cC (key:=5) 4 rfl rfl aD rfl ⟨rfl,rfl,rfl,rfl,trivial⟩ ?_;refine aO 1 rfl (bC ha) bB ⟨aA rfl,rfl⟩ (kF (k)) ?_
  refine aO 3 rfl (bC hb) bB ⟨aA rfl,rfl⟩ (kF ((0:Int))) ?_;refine bQ 6 (by kernel_rfl) rfl rfl aD rfl rfl rfl rfl ⟨rfl,rfl,rfl,rfl,trivial⟩ ?_
  refine dst 7 ?_;refine bU ?_;exact⟨(),trivial,bZ h0 [2,3,5,4] _ _ (by decide) ⟨rfl,rfl,rfl,rfl,trivial⟩ ⟨oe rfl rfl,oe rfl rfl,oe rfl rfl,oe rfl rfl,rfl⟩⟩
 refine sq ?_;refine rl ?_;refine o1 ?_;refine o1 ?_;refine ld ?_;refine o1 ?_;refine o1 ?_;refine ld ?_
 refine ca (Dx (aW (by omega) k.natAbs) (aW (by omega) (0:Int).natAbs) (by omega) (by decide) rfl) Lu ⟨a1 rfl,a1 rfl,rfl⟩ (.tup [.one (.t (sU false [])),.one (.t (sU false [])),.one (tv (.int .i64 20))]) ?_
 (iterate 7 refine o1 ?_);refine nl ?_;refine sq ?_;refine sq ?_;refine rl ?_;refine o1 ?_;refine o1 ?_;refine WL.cast (t:=27) (u':=.bool true) rfl (congrArg Value.bool rfl) ?_
 refine nl ?_;refine lG rfl ?_;refine sq ?_;refine rl ?_;refine o1 ?_;refine o1 ?_;refine st ?_;refine st ?_;refine o1 ?_;refine nl ?_;refine rt ?_
 exact en (.inl rfl) rfl (zQ (.cons (.agg (.cons (.id rfl) (.cons (.nil (t:=22) (z:=1)) .nil))) (.cons (.agg (.cons (.id rfl) (.cons (.nil (t:=22) (z:=1)) .nil))) (.cons (cF _) .nil)))) (by decide) (fun _=>⟨cU 0,cU 0,trivial,trivial⟩) rfl
theorem pS {a:Zi}{k:Int}(h:Zn a k) (hr:bT a.s a.x=true):a=.of k:=by
 obtain⟨h1,_,h3⟩:=h
 obtain⟨s,x⟩:=a
 simp only at h1 h3 hr
 unfold Zi.of
 rw[←h3,sD h1 hr,lS h1 hr]
def Ln (k:Int):Nat:=(dg 4294967296 k.natAbs).length
theorem gW {a b:Int}{L:Nat}(h:a.natAbs≤b.natAbs) (hb:Ln b≤L):Ln a≤L:=Nat.le_trans (kP h) hb
theorem fF {a b:Int}{L:Nat}(ha:Ln a≤L) (hb:Ln b≤L):Ln (a+b)≤L+1:=wU a b ha hb
theorem Ny {a:Int}{L:Nat}(ha:Ln a≤L):Ln (-a)≤L:=by unfold Ln;rw[Int.natAbs_neg];exact ha
theorem iU {a b:Int}{L:Nat}(ha:Ln a≤L) (hb:Ln b≤L):Ln (a-b)≤L+1:=by rw[Int.sub_eq_add_neg];exact fF ha (Ny hb)
theorem eQ {a b:Int}{L M:Nat}(ha:Ln a≤L) (hb:Ln b≤M):Ln (a*b)≤L+M:=Nat.le_trans (wT a b) (Nat.add_le_add ha hb)
theorem gX {a:Int}{L:Nat}(ha:Ln a≤L):Ln ((a.natAbs:Nat):Int)≤L:=ha
theorem eD {x y:Int}(h:y≠0):(x.fmod y).natAbs<y.natAbs:=by
 rw[Int.fmod_eq_emod]
 have h1:=Int.emod_nonneg x h
 have h2:=Int.emod_lt_of_pos x (show 0<(y.natAbs:Int) by omega)
 have h3:x%(y.natAbs:Int)=x%y:=by
  rcases Int.natAbs_eq y with h4 | h4
  ·rw[←h4]
  conv=>rhs;rw[h4,Int.emod_neg]
 split
 ·omega
 rename_i h5
 have h6:¬x%y=0:=fun h7=>h5 (.inr (Int.dvd_of_emod_eq_zero h7))
 omega
theorem Ju {x y:Int}(h:y≠0) (h2:(x.fmod y).sign≠0):(x.fmod y).sign=y.sign:=by
 have h3:x.fmod y≠0:=fun e=>h2 (by rw[e];rfl)
 have h1:=Int.emod_nonneg x h
 have h5:=eD (x:=x) h
 have h6:0<y∧0<x.fmod y∨y<0∧x.fmod y<0:=by
  rw[Int.fmod_eq_emod]at h3 h5⊢
  rcases Int.lt_or_lt_of_ne h with h7 | h7
  ·right
   refine⟨h7,?_⟩
   have h2:=Int.emod_lt_of_pos x (show 0<(y.natAbs:Int) by omega)
   have h8:x%(y.natAbs:Int)=x%y:=by
    conv=>rhs;rw[show y=-(y.natAbs:Int) by omega,Int.emod_neg]
   split at h3
   ·rename_i h9
    rcases h9 with h9 | h9
    ·omega
    have:=Int.emod_eq_zero_of_dvd h9;omega
   rename_i h9
   rw[if_neg h9]
   omega
  left
  refine⟨h7,?_⟩
  rw[if_pos (Or.inl (by omega))]at h3⊢
  omega
 rcases h6 with⟨h7,h8⟩ | ⟨h7,h8⟩
 ·rw[Int.sign_eq_one_of_pos h7,Int.sign_eq_one_of_pos h8]
 rw[Int.sign_eq_neg_one_of_neg h7,Int.sign_eq_neg_one_of_neg h8]
theorem yV {x y:Int}{L:Nat}(h:Ln x≤L) (hL:1≤L):Ln (x.fdiv y)≤L+1:=by
 have h1:(x.fdiv y).natAbs≤(((x.natAbs:Nat):Int)+1).natAbs:=by
  rw[Int.fdiv_eq_ediv]
  have:=Int.natAbs_ediv_le_natAbs x y
  split <;> omega
 exact gW h1 (fF (gX h) (Nat.le_trans (show Ln 1≤1 from bG (by omega) (by decide)) hL))
theorem Dz {r y:Int}(h:r.natAbs<y.natAbs):¬0≤(((r.natAbs:Nat):Int)-((y.natAbs:Nat):Int)).sign:=by
 rw[Int.sign_eq_neg_one_of_neg (by omega)]
 omega
theorem Fy (z:Int):-1≤z.sign∧z.sign≤1:=by
 rcases Int.lt_trichotomy z 0 with h | h | h
 ·rw[Int.sign_eq_neg_one_of_neg h];omega
 ·rw[h];decide
 rw[Int.sign_eq_one_of_pos h];omega
theorem sH (x y:Int):(x-y).sign=0-(y-x).sign:=by
 rw[show x-y=-(y-x) by omega,Int.sign_neg]
 omega
theorem jD {z:Int}:z.sign=0↔z=0:=Int.sign_eq_zero_iff_zero
theorem Qi (x y:Int):x.fdiv y*y+x.fmod y=x:=by
 rw[Int.mul_comm]
 exact Int.mul_fdiv_add_fmod x y
theorem eV {x y:Int}{L:Nat}(hx:Ln x≤L) (hy:Ln y≤L):Ln ((Int.gcd x y:Nat):Int)≤L:=by
 by_cases h0:x=0
 ·subst h0
  rw[Int.gcd_zero_left]
  exact hy
 refine gW (b:=x) ?_ hx
 rw[Int.natAbs_natCast]
 exact Nat.le_of_dvd (by omega) (Int.gcd_dvd_natAbs_left x y)
theorem wC {x y:Int}(h:((Int.gcd x y:Nat):Int)=0):x=0:=((Int.gcd_eq_zero_iff (a:=x) (b:=y)).1 (by omega)).1
theorem wD {x y:Int}(h:((Int.gcd x y:Nat):Int)=0):y=0:=((Int.gcd_eq_zero_iff (a:=x) (b:=y)).1 (by omega)).2
theorem wE (x y:Int):x.fmod ((Int.gcd x y:Nat):Int)=0:=Int.fmod_eq_zero_of_dvd (Int.gcd_dvd_left x y)
theorem wF (x y:Int):y.fmod ((Int.gcd x y:Nat):Int)=0:=Int.fmod_eq_zero_of_dvd (Int.gcd_dvd_right x y)
theorem wG {x y:Int}(h:((Int.gcd x y:Nat):Int)≠0):0<(((Int.gcd x y:Nat):Int)).sign:=by
 rw[Int.sign_eq_one_of_pos (by omega)]
 omega
theorem sI {k:Int}{L:Nat}(h:Ln k≤L) (hL:1≤L):(gC k).length≤10*L+1:=by
 have h1:=iI (B:=4294967296) (n:=k.natAbs) (by omega)
 have h2:k.natAbs<10^(10*Ln k):=Nat.lt_of_lt_of_le h1 (by rw[Nat.pow_mul];exact Nat.pow_le_pow_left (by omega) _)
 have h3:=bG (B:=10) (by omega) h2
 have h4:(tx k.natAbs).length≤10*L:=by
  unfold tx
  split
  ·simp;omega
  rw[List.length_reverse,eO];omega
 unfold gC
 split
 ·rw[List.length_cons];omega
 omega
theorem fS {a b:Zi}{k k' K:Int}(ha:Zg a k) (hb:Zg b k') (e:k+k'=K):aI true Tryz.prog 36 [] [gF a,gF b] (aX (kO K)):=e▸Px ha hb
theorem dM {a b:Zi}{k k' K:Int}(ha:Zg a k) (hb:Zg b k') (e:k*k'=K):aI true Tryz.prog 37 [] [gF a,gF b] (aX (kO K)):=e▸Gv ha hb
theorem wH {a b:Zi}{k k' K:Int}(ha:Zg a k) (hb:Zg b k') (e:k-k'=K):aI true Tryz.prog 40 [] [gF a,gF b] (aX (kO K)):=e▸Gu ha hb
theorem kE {a b:Zi}{k k' q r:Int}(ha:Zg a k) (hb:Zg b k') (h0:k'≠0) (hq:k.fdiv k'=q) (hr:k.fmod k'=r):aI true Tryz.prog 33 [] [gF a,gF b] (aX (.tup [kO q,kO r,.one (tv (.int .i64 0))])):=by
 subst hq hr
 exact vY ha hb h0
theorem pT {k:Int}(h:(gC k).length≤4096):aI true Tryz.prog 22 [] [.one (tv (.string (aS (gC k))))] (aX (.tup [kO k,.one (tv (.int .i64 0))])):=by
 have h1:=Js (Jg k) (Nat.le_trans h (by omega))
 obtain⟨e1,e2⟩:=Qa h
 rw[e1,e2]at h1
 exact h1
theorem aC {k:Int}{L:Nat}(h:Ln k≤L) (hL:L≤137438953472):Zn (.of k) k:=Zn.of (Nat.le_trans h hL)
theorem fN {k:Int}{L:Nat}(h:Ln k≤L) (hL:L≤1000000):aI true Tryz.prog 35 [] [kF k,kF k] (aX (.one (tv (.bool true)))):=mU (a:=.of k) (k:=k) (Nat.le_trans h hL) (aC h (by omega))
set_option maxHeartbeats 4000000 in
theorem Bd {a b c:Zi}(hla:Lim 4294967296 a.x) (hlb:Lim 4294967296 b.x) (hlc:Lim 4294967296 c.x):aI true Tryz.prog 6 [] [gF a,gF b,gF c] (aX (.one (tv (.bool true)))):=by
 refine dV Tryz.func6 rfl Tryz.ntmps6 rfl aD rfl fun N9 w9 c0 h0=>?_
 refine sq ?_;refine rl ?_;refine bx 0 ?_;refine bx 1 ?_;refine bx 2 ?_;refine o1 ?_;refine nl ?_;refine sq ?_;refine sq ?_;refine rl ?_;refine o1 ?_;refine ld ?_;(iterate 3 refine o1 ?_)
 refine WL.split (t:=23) rfl (fun h1=>?_) (fun h1=>?_)
 ·(iterate 4 refine dY ?_);refine o1 ?_;refine o1 ?_;(iterate 4 refine dY ?_);refine o1 ?_;refine o1 ?_;(iterate 3 refine dY ?_);refine o1 ?_;refine o1 ?_;(iterate 3 refine dY ?_)
  refine o1 ?_;refine o1 ?_;(iterate 3 refine dY ?_);refine o1 ?_;refine nl ?_;refine lG rfl ?_;refine sq ?_;refine rl ?_;refine ca (eC) iW rfl (.one (tv (.bool true))) ?_
  refine o1 ?_;refine nl ?_;refine rt ?_;exact fY (.inl rfl) rfl (rfl)
 refine o1 ?_;refine ld ?_;(iterate 4 refine o1 ?_);refine WL.split (t:=29) rfl (fun h2=>?_) (fun h2=>?_)
 ·(iterate 4 refine dY ?_);refine o1 ?_;refine o1 ?_;(iterate 3 refine dY ?_);refine o1 ?_;refine o1 ?_;(iterate 3 refine dY ?_);refine o1 ?_;refine o1 ?_;(iterate 3 refine dY ?_)
  refine o1 ?_;refine nl ?_;refine lG rfl ?_;refine sq ?_;refine rl ?_;refine ca (eC) iW rfl (.one (tv (.bool true))) ?_;refine o1 ?_;refine nl ?_;refine rt ?_
  exact fY (.inl rfl) rfl (rfl)
 refine o1 ?_;refine ld ?_;(iterate 4 refine o1 ?_);refine WL.split (t:=35) rfl (fun h3=>?_) (fun h3=>?_)
 ·(iterate 3 refine dY ?_);refine o1 ?_;refine o1 ?_;(iterate 3 refine dY ?_);refine o1 ?_;refine o1 ?_;(iterate 3 refine dY ?_);refine o1 ?_;refine nl ?_;refine lG rfl ?_
  refine sq ?_;refine rl ?_;refine ca (eC) iW rfl (.one (tv (.bool true))) ?_;refine o1 ?_;refine nl ?_;refine rt ?_;exact fY (.inl rfl) rfl (rfl)
 refine ld ?_;refine ca (oR (a:=a) (k:=zv a) ⟨hla,by omega,rfl⟩) zU ⟨aA rfl,rfl⟩ (.one (tv (.bool (bT a.s a.x)))) ?_
 refine WL.splitb (t:=37) rfl (fun h4=>?_) (fun h4=>?_)
 ·(iterate 3 refine o1 ?_);refine ld ?_;refine ca (oR (a:=b) (k:=zv b) ⟨hlb,by omega,rfl⟩) zU ⟨aA rfl,rfl⟩ (.one (tv (.bool (bT b.s b.x)))) ?_
  refine WL.splitb (t:=42) rfl (fun h5=>?_) (fun h5=>?_)
  ·(iterate 3 refine o1 ?_);refine ld ?_;refine ca (oR (a:=c) (k:=zv c) ⟨hlc,by omega,rfl⟩) zU ⟨aA rfl,rfl⟩ (.one (tv (.bool (bT c.s c.x)))) ?_
   refine WL.splitb (t:=47) rfl (fun h6=>?_) (fun h6=>?_)
   ·refine o1 ?_;refine o1 ?_;refine nl ?_;refine gY rfl ?_;refine sk ?_;refine sq ?_;refine rl ?_;obtain⟨x,hka⟩:∃k,k=zv a:=⟨_,rfl⟩
    obtain rfl:=pS (hka▸(show ZL 20 a from⟨hla,by omega⟩).n (by omega):Zn a x) h4
    have hlx:Ln x≤20:=show(Zi.of x).x.length≤20 by omega
    obtain⟨y,hkb⟩:∃k,k=zv b:=⟨_,rfl⟩
    obtain rfl:=pS (hkb▸(show ZL 20 b from⟨hlb,by omega⟩).n (by omega):Zn b y) h5
    have hly:Ln y≤20:=show(Zi.of y).x.length≤20 by omega
    obtain⟨z,hkc⟩:∃k,k=zv c:=⟨_,rfl⟩
    obtain rfl:=pS (hkc▸(show ZL 20 c from⟨hlc,by omega⟩).n (by omega):Zn c z) h6
    have hlz:Ln z≤20:=show(Zi.of z).x.length≤20 by omega
    rcases Classical.em (y=0)with rfl | hy0
    ·refine ld ?_;refine ld ?_
     refine ca (Dy (aC (hlx) (by decide)).g (aC (show Ln 0≤20 from Nat.zero_le 20) (by decide)).g) jW ⟨aA rfl,aA rfl,rfl⟩ (.tup [kF 0,kF 0,.one (tv (.int .i64 20))]) ?_
     (iterate 4 refine o1 ?_);refine al 3 ?_;refine al 4 ?_;refine st ?_;refine st ?_;refine o1 ?_;refine nl ?_;refine sq ?_;refine sq ?_
     refine rd [0,1,2,3,4] (fun i=>[].contains i) mixed ?_
     refine dv 0 ?_;refine dv 1 ?_;refine WD.cast (t:=59) (u':=.bool false) rfl (congrArg Value.bool (decide_eq_false (by decide))) ?_
     refine aP 2 ?_;refine aO 3 rfl (cB (aC (show Ln 0≤20 from Nat.zero_le 20) (by decide)).g) dO ⟨aA rfl,rfl⟩ (.one (tv (.int .i64 (((0:Int)).sign)))) ?_
     refine df 4 ?_;refine WD.cast (t:=62) (u':=.bool true) rfl (congrArg Value.bool (decide_eq_true rfl)) ?_;refine df 5 ?_;refine df 6 ?_;refine dv 7 ?_;refine dv 8 ?_
     refine WD.cast (t:=66) (u':=.bool false) rfl (congrArg Value.bool (decide_eq_false (by decide))) ?_
     refine dv 9 ?_;refine dI 10 ?_;refine dI 11 ?_;refine dI 13 ?_;refine dI 15 ?_;refine dI 12 ?_;refine dI 14 ?_;refine dI 16 ?_;refine dI 17 ?_;refine dI 18 ?_
     refine dI 19 ?_;refine dI 20 ?_;refine dI 21 ?_;refine dI 22 ?_;refine dI 23 ?_;refine dI 25 ?_;refine dI 24 ?_;refine dI 26 ?_;refine dI 27 ?_;refine dI 28 ?_
     refine dI 29 ?_;refine dI 30 ?_;refine dI 31 ?_;refine dI 33 ?_;refine dI 32 ?_;refine dI 34 ?_;refine dI 35 ?_;refine dI 36 ?_;refine dI 37 ?_;refine dv 38 ?_
     refine df 39 ?_;refine bU ?_;refine gY rfl ?_;refine sk ?_;refine sq ?_;refine sq ?_;have hsb:=Fy (0-x)
     refine rd [0,1,2,3,4] (fun i=>[].contains i) mixed ?_
     refine aP 0 ?_;refine aP 1 ?_;refine aP 2 ?_;refine aP 5 ?_;refine aP 6 ?_;refine aP 8 ?_;refine aP 9 ?_
     refine aO 3 rfl (fS (K:=((0:Int))+(z)) (aC (show Ln 0≤20 from Nat.zero_le 20) (by decide)).g (aC (hlz) (by decide)).g rfl) kX ⟨aA rfl,aA rfl,rfl⟩ (kF (((0:Int))+(z))) ?_
     refine aO 4 rfl (dM (K:=(x)*(((0:Int))+(z))) (aC (hlx) (by decide)).g (aC (fF (show Ln 0≤20 from Nat.zero_le 20) (hlz)) (by decide)).g rfl) fC ⟨aA rfl,aA rfl,rfl⟩ (kF ((x)*(((0:Int))+(z)))) ?_
     refine aO 7 rfl (dM (K:=(x)*((0:Int))) (aC (hlx) (by decide)).g (aC (show Ln 0≤20 from Nat.zero_le 20) (by decide)).g rfl) fC ⟨aA rfl,aA rfl,rfl⟩ (kF ((x)*((0:Int)))) ?_
     refine aO 10 rfl (dM (K:=(x)*(z)) (aC (hlx) (by decide)).g (aC (hlz) (by decide)).g rfl) fC ⟨aA rfl,aA rfl,rfl⟩ (kF ((x)*(z))) ?_
     refine aO 11 rfl (fS (K:=(x)*(((0:Int))+(z))) (aC (eQ (hlx) (show Ln 0≤20 from Nat.zero_le 20)) (by decide)).g (aC (eQ (hlx) (hlz)) (by decide)).g (Int.mul_add _ _ _).symm) kX ⟨aA rfl,aA rfl,rfl⟩ (kF ((x)*(((0:Int))+(z)))) ?_
     refine aO 12 rfl (fN (k:=(x)*(((0:Int))+(z))) (eQ (hlx) (fF (show Ln 0≤20 from Nat.zero_le 20) (hlz))) (by decide)) eK ⟨aA rfl,aA rfl,rfl⟩ (.one (tv (.bool true))) ?_
     refine df 13 ?_;refine df 14 ?_;refine aP 15 ?_;refine aP 16 ?_;refine aP 18 ?_;refine aP 19 ?_
     refine aO 17 rfl (dM (K:=(x)*((0:Int))) (aC (hlx) (by decide)).g (aC (show Ln 0≤20 from Nat.zero_le 20) (by decide)).g rfl) fC ⟨aA rfl,aA rfl,rfl⟩ (kF ((x)*((0:Int)))) ?_
     refine aO 20 rfl (dM (K:=(x)*((0:Int))) (aC (show Ln 0≤20 from Nat.zero_le 20) (by decide)).g (aC (hlx) (by decide)).g (Int.mul_comm _ _)) fC ⟨aA rfl,aA rfl,rfl⟩ (kF ((x)*((0:Int)))) ?_
     refine aO 21 rfl (fN (k:=(x)*((0:Int))) (eQ (hlx) (show Ln 0≤20 from Nat.zero_le 20)) (by decide)) eK ⟨aA rfl,aA rfl,rfl⟩ (.one (tv (.bool true))) ?_
     refine df 22 ?_;refine df 23 ?_;refine df 24 ?_;refine aP 25 ?_;refine aP 26 ?_;refine aP 28 ?_;refine aP 30 ?_
     refine aO 27 rfl (fS (K:=(x)+((0:Int))) (aC (hlx) (by decide)).g (aC (show Ln 0≤20 from Nat.zero_le 20) (by decide)).g rfl) kX ⟨aA rfl,aA rfl,rfl⟩ (kF ((x)+((0:Int)))) ?_
     refine aO 29 rfl (wH (K:=x) (aC (fF (hlx) (show Ln 0≤20 from Nat.zero_le 20)) (by decide)).g (aC (show Ln 0≤20 from Nat.zero_le 20) (by decide)).g (by omega)) zW ⟨aA rfl,aA rfl,rfl⟩ (kF (x)) ?_
     refine aO 31 rfl (fN (k:=x) (hlx) (by decide)) eK ⟨aA rfl,aA rfl,rfl⟩ (.one (tv (.bool true))) ?_
     refine df 32 ?_;refine df 33 ?_;refine df 34 ?_;refine aP 35 ?_;refine aP 36 ?_;refine aP 38 ?_;refine aP 39 ?_
     refine aO 37 rfl (jF (aC (hlx) (by decide)).g (aC (show Ln 0≤20 from Nat.zero_le 20) (by decide)).g (Nat.le_trans (iU (hlx) (show Ln 0≤20 from Nat.zero_le 20)) (by decide))) mK ⟨aA rfl,aA rfl,rfl⟩ (.one (tv (.int .i64 (((x)-((0:Int))).sign)))) ?_
     refine aO 40 rfl (jF (aC (show Ln 0≤20 from Nat.zero_le 20) (by decide)).g (aC (hlx) (by decide)).g (Nat.le_trans (iU (show Ln 0≤20 from Nat.zero_le 20) (hlx)) (by decide))) mK ⟨aA rfl,aA rfl,rfl⟩ (.one (tv (.int .i64 ((((0:Int))-(x)).sign)))) ?_
     refine df 41 ?_;refine df 42 ?_;refine WD.cast (t:=140) (u':=.bool false) rfl (congrArg Value.bool (decide_eq_false fun h=>h (sH x (0:Int)))) ?_
     refine df 43 ?_;refine bU ?_;refine gY rfl ?_;refine sk ?_;refine sq ?_;refine rl ?_;refine ld ?_
     refine ca (tR (aC (hlx) (by decide)) (Nat.le_trans (hlx) (by decide))) zT ⟨aA rfl,rfl⟩ (.one (tv (.string (aS (gC x))))) ?_
     refine ca (pT (k:=x) (Nat.le_trans (sI hlx (by decide)) (by decide))) Fd ⟨a1 rfl,rfl⟩ (.tup [kF x,.one (tv (.int .i64 0))]) ?_
     (iterate 3 refine o1 ?_);refine al 5 ?_;refine st ?_;refine o1 ?_;refine nl ?_;refine sq ?_;refine sq ?_;refine rl ?_;refine o1 ?_;refine o1 ?_
     refine WL.cast (t:=149) (u':=.bool false) rfl (congrArg Value.bool (decide_eq_false (by decide))) ?_
     refine o1 ?_;refine ld ?_;refine ld ?_;refine ca (fN (k:=x) (hlx) (by decide)) eK ⟨aA rfl,aA rfl,rfl⟩ (.one (tv (.bool true))) ?_
     refine o1 ?_;refine o1 ?_;refine nl ?_;refine gY rfl ?_;refine sk ?_;refine sq ?_;refine rl ?_;refine ld ?_;refine ld ?_
     refine ca (tP (aC (hlx) (by decide)).g (aC (show Ln 0≤20 from Nat.zero_le 20) (by decide)).g) vB ⟨aA rfl,aA rfl,rfl⟩ (kF ((Int.gcd x 0:Nat):Int)) ?_
     refine al 6 ?_;refine st ?_;refine nl ?_;refine sq ?_;refine sq ?_;refine rl ?_;refine ld ?_
     refine ca (cB (aC (eV (hlx) (show Ln 0≤20 from Nat.zero_le 20)) (by decide)).g) dO ⟨aA rfl,rfl⟩ (.one (tv (.int .i64 ((((Int.gcd x 0:Nat):Int)).sign)))) ?_
     refine o1 ?_;refine nl ?_;refine eL rfl (fun h7=>?_) (fun h7=>?_)
     ·refine sq ?_;refine rl ?_;refine ld ?_;refine ca (cB (aC (hlx) (by decide)).g) dO ⟨aA rfl,rfl⟩ (.one (tv (.int .i64 ((x).sign)))) ?_
      refine o1 ?_;refine WL.cast (t:=164) (u':=.bool true) rfl (congrArg Value.bool (decide_eq_true (jD.2 (wC (jD.1 h7))))) ?_;refine o1 ?_;refine ld ?_
      refine ca (cB (aC (show Ln 0≤20 from Nat.zero_le 20) (by decide)).g) dO ⟨aA rfl,rfl⟩ (.one (tv (.int .i64 (((0:Int)).sign)))) ?_
      refine o1 ?_;refine WL.cast (t:=168) (u':=.bool true) rfl (congrArg Value.bool (decide_eq_true (jD.2 (wD (jD.1 h7))))) ?_;refine o1 ?_;refine o1 ?_
      refine ca (eC) iW rfl (.one (tv (.bool true))) ?_;refine o1 ?_;refine o1 ?_;refine nl ?_;refine rt ?_;exact fY (.inl rfl) rfl (rfl)
     refine sk ?_;refine sq ?_;have hg0:((Int.gcd x 0:Nat):Int)≠0:=fun e=>h7 (jD.2 e)
     refine rl ?_;refine ld ?_;refine ld ?_
     refine ca (kE (q:=(x).fdiv ((Int.gcd x 0:Nat):Int)) (r:=(0:Int)) (aC (hlx) (by decide)).g (aC (eV (hlx) (show Ln 0≤20 from Nat.zero_le 20)) (by decide)).g hg0 rfl (wE x 0)) jW ⟨aA rfl,aA rfl,rfl⟩ (.tup [kF ((x).fdiv ((Int.gcd x 0:Nat):Int)),kF ((0:Int)),.one (tv (.int .i64 0))]) ?_
     (iterate 4 refine o1 ?_);refine al 7 ?_;refine al 8 ?_;refine st ?_;refine st ?_;refine o1 ?_;refine nl ?_;refine sq ?_;refine rl ?_;refine ld ?_;refine ld ?_
     refine ca (kE (q:=((0:Int)).fdiv ((Int.gcd x 0:Nat):Int)) (r:=(0:Int)) (aC (show Ln 0≤20 from Nat.zero_le 20) (by decide)).g (aC (eV (hlx) (show Ln 0≤20 from Nat.zero_le 20)) (by decide)).g hg0 rfl (wF x 0)) jW ⟨aA rfl,aA rfl,rfl⟩ (.tup [kF (((0:Int)).fdiv ((Int.gcd x 0:Nat):Int)),kF ((0:Int)),.one (tv (.int .i64 0))]) ?_
     (iterate 4 refine o1 ?_);refine al 9 ?_;refine al 10 ?_;refine st ?_;refine st ?_;refine o1 ?_;refine nl ?_;refine sq ?_;refine rl ?_;refine ld ?_
     refine ca (cB (aC (show Ln 0≤20 from Nat.zero_le 20) (by decide)).g) dO ⟨aA rfl,rfl⟩ (.one (tv (.int .i64 (((0:Int)).sign)))) ?_
     refine o1 ?_;refine WL.cast (t:=189) (u':=.bool true) rfl (congrArg Value.bool (decide_eq_true rfl)) ?_;refine o1 ?_;refine ld ?_
     refine ca (cB (aC (show Ln 0≤20 from Nat.zero_le 20) (by decide)).g) dO ⟨aA rfl,rfl⟩ (.one (tv (.int .i64 (((0:Int)).sign)))) ?_
     refine o1 ?_;refine WL.cast (t:=193) (u':=.bool true) rfl (congrArg Value.bool (decide_eq_true rfl)) ?_;refine o1 ?_;refine o1 ?_;refine ld ?_
     refine ca (cB (aC (eV (hlx) (show Ln 0≤20 from Nat.zero_le 20)) (by decide)).g) dO ⟨aA rfl,rfl⟩ (.one (tv (.int .i64 ((((Int.gcd x 0:Nat):Int)).sign)))) ?_
     refine o1 ?_;refine WL.cast (t:=198) (u':=.bool true) rfl (congrArg Value.bool (decide_eq_true (wG hg0))) ?_;refine o1 ?_;refine o1 ?_
     refine ca (eC) iW rfl (.one (tv (.bool true))) ?_;refine o1 ?_;refine o1 ?_;refine nl ?_;refine rt ?_;exact fY (.inl rfl) rfl (rfl)
    refine ld ?_;refine ld ?_
    refine ca (kE (q:=x.fdiv y) (r:=x.fmod y) (aC (hlx) (by decide)).g (aC (hly) (by decide)).g hy0 rfl (rfl)) jW ⟨aA rfl,aA rfl,rfl⟩ (.tup [kF (x.fdiv y),kF (x.fmod y),.one (tv (.int .i64 0))]) ?_
    (iterate 4 refine o1 ?_);refine al 3 ?_;refine al 4 ?_;refine st ?_;refine st ?_;refine o1 ?_;refine nl ?_;refine sq ?_;refine sq ?_
    refine rd [0,1,2,3,4] (fun i=>[].contains i) mixed ?_
    refine dv 0 ?_;refine dv 1 ?_;refine WD.cast (t:=59) (u':=.bool true) rfl (congrArg Value.bool (decide_eq_true rfl)) ?_;refine aP 2 ?_
    refine aO 3 rfl (cB (aC (hly) (by decide)).g) dO ⟨aA rfl,rfl⟩ (.one (tv (.int .i64 ((y).sign)))) ?_
    refine df 4 ?_;refine WD.cast (t:=62) (u':=.bool false) rfl (congrArg Value.bool (decide_eq_false fun h=>hy0 (jD.1 h))) ?_
    refine df 5 ?_;refine df 6 ?_;refine dv 7 ?_;refine dv 8 ?_;refine WD.cast (t:=66) (u':=.bool true) rfl (congrArg Value.bool (decide_eq_true rfl)) ?_;refine dv 9 ?_
    refine aP 10 ?_;refine aP 11 ?_;refine aP 13 ?_;refine aP 15 ?_
    refine aO 12 rfl (dM (K:=x.fdiv y*y) (aC (yV (hlx) (by decide)) (by decide)).g (aC (hly) (by decide)).g rfl) fC ⟨aA rfl,aA rfl,rfl⟩ (kF (x.fdiv y*y)) ?_
    refine aO 14 rfl (fS (K:=x) (aC (eQ (yV (hlx) (by decide)) (hly)) (by decide)).g (aC (gW (Nat.le_of_lt (eD hy0)) (hly)) (by decide)).g (Qi x y)) kX ⟨aA rfl,aA rfl,rfl⟩ (kF (x)) ?_
    refine aO 16 rfl (fN (k:=x) (hlx) (by decide)) eK ⟨aA rfl,aA rfl,rfl⟩ (.one (tv (.bool true))) ?_
    refine df 17 ?_;refine df 18 ?_;refine aP 19 ?_
    refine aO 20 rfl (cB (aC (gW (Nat.le_of_lt (eD hy0)) (hly)) (by decide)).g) dO ⟨aA rfl,rfl⟩ (.one (tv (.int .i64 ((x.fmod y).sign)))) ?_
    refine df 21 ?_;refine df 22 ?_;refine WD.split (t:=80) rfl rfl (fun h8=>?_) (fun h8=>?_)
    ·refine aP 23 ?_;refine aP 25 ?_
     refine aO 24 rfl (cB (aC (gW (Nat.le_of_lt (eD hy0)) (hly)) (by decide)).g) dO ⟨aA rfl,rfl⟩ (.one (tv (.int .i64 ((x.fmod y).sign)))) ?_
     refine aO 26 rfl (cB (aC (hly) (by decide)).g) dO ⟨aA rfl,rfl⟩ (.one (tv (.int .i64 ((y).sign)))) ?_
     refine df 27 ?_;refine WD.cast (t:=85) (u':=.bool false) rfl (congrArg Value.bool (decide_eq_false fun h=>h (Ju hy0 h8))) ?_
     refine df 28 ?_;refine df 29 ?_;refine df 30 ?_;refine aP 31 ?_;refine aP 33 ?_
     refine aO 32 rfl (tO (aC (gW (Nat.le_of_lt (eD hy0)) (hly)) (by decide)).g) zV ⟨aA rfl,rfl⟩ (kF (((x.fmod y).natAbs:Nat):Int)) ?_
     refine aO 34 rfl (tO (aC (hly) (by decide)).g) zV ⟨aA rfl,rfl⟩ (kF (((y).natAbs:Nat):Int)) ?_
     refine aO 35 rfl (jF (aC (gX (gW (Nat.le_of_lt (eD hy0)) (hly))) (by decide)).g (aC (gX (hly)) (by decide)).g (Nat.le_trans (iU (gX (gW (Nat.le_of_lt (eD hy0)) (hly))) (gX (hly))) (by decide))) mK ⟨aA rfl,aA rfl,rfl⟩ (.one (tv (.int .i64 ((((((x.fmod y).natAbs:Nat):Int))-((((y).natAbs:Nat):Int))).sign)))) ?_
     refine df 36 ?_;refine WD.cast (t:=94) (u':=.bool false) rfl (congrArg Value.bool (decide_eq_false (Dz (eD hy0)))) ?_;refine df 37 ?_;refine df 38 ?_;refine df 39 ?_
     refine bU ?_;refine gY rfl ?_;refine sk ?_;refine sq ?_;refine sq ?_;have hsb:=Fy (y-x)
     refine rd [0,1,2,3,4] (fun i=>[].contains i) mixed ?_
     refine aP 0 ?_;refine aP 1 ?_;refine aP 2 ?_;refine aP 5 ?_;refine aP 6 ?_;refine aP 8 ?_;refine aP 9 ?_
     refine aO 3 rfl (fS (K:=(y)+(z)) (aC (hly) (by decide)).g (aC (hlz) (by decide)).g rfl) kX ⟨aA rfl,aA rfl,rfl⟩ (kF ((y)+(z))) ?_
     refine aO 4 rfl (dM (K:=(x)*((y)+(z))) (aC (hlx) (by decide)).g (aC (fF (hly) (hlz)) (by decide)).g rfl) fC ⟨aA rfl,aA rfl,rfl⟩ (kF ((x)*((y)+(z)))) ?_
     refine aO 7 rfl (dM (K:=(x)*(y)) (aC (hlx) (by decide)).g (aC (hly) (by decide)).g rfl) fC ⟨aA rfl,aA rfl,rfl⟩ (kF ((x)*(y))) ?_
     refine aO 10 rfl (dM (K:=(x)*(z)) (aC (hlx) (by decide)).g (aC (hlz) (by decide)).g rfl) fC ⟨aA rfl,aA rfl,rfl⟩ (kF ((x)*(z))) ?_
     refine aO 11 rfl (fS (K:=(x)*((y)+(z))) (aC (eQ (hlx) (hly)) (by decide)).g (aC (eQ (hlx) (hlz)) (by decide)).g (Int.mul_add _ _ _).symm) kX ⟨aA rfl,aA rfl,rfl⟩ (kF ((x)*((y)+(z)))) ?_
     refine aO 12 rfl (fN (k:=(x)*((y)+(z))) (eQ (hlx) (fF (hly) (hlz))) (by decide)) eK ⟨aA rfl,aA rfl,rfl⟩ (.one (tv (.bool true))) ?_
     refine df 13 ?_;refine df 14 ?_;refine aP 15 ?_;refine aP 16 ?_;refine aP 18 ?_;refine aP 19 ?_
     refine aO 17 rfl (dM (K:=(x)*(y)) (aC (hlx) (by decide)).g (aC (hly) (by decide)).g rfl) fC ⟨aA rfl,aA rfl,rfl⟩ (kF ((x)*(y))) ?_
     refine aO 20 rfl (dM (K:=(x)*(y)) (aC (hly) (by decide)).g (aC (hlx) (by decide)).g (Int.mul_comm _ _)) fC ⟨aA rfl,aA rfl,rfl⟩ (kF ((x)*(y))) ?_
     refine aO 21 rfl (fN (k:=(x)*(y)) (eQ (hlx) (hly)) (by decide)) eK ⟨aA rfl,aA rfl,rfl⟩ (.one (tv (.bool true))) ?_
     refine df 22 ?_;refine df 23 ?_;refine df 24 ?_;refine aP 25 ?_;refine aP 26 ?_;refine aP 28 ?_;refine aP 30 ?_
     refine aO 27 rfl (fS (K:=(x)+(y)) (aC (hlx) (by decide)).g (aC (hly) (by decide)).g rfl) kX ⟨aA rfl,aA rfl,rfl⟩ (kF ((x)+(y))) ?_
     refine aO 29 rfl (wH (K:=x) (aC (fF (hlx) (hly)) (by decide)).g (aC (hly) (by decide)).g (by omega)) zW ⟨aA rfl,aA rfl,rfl⟩ (kF (x)) ?_
     refine aO 31 rfl (fN (k:=x) (hlx) (by decide)) eK ⟨aA rfl,aA rfl,rfl⟩ (.one (tv (.bool true))) ?_
     refine df 32 ?_;refine df 33 ?_;refine df 34 ?_;refine aP 35 ?_;refine aP 36 ?_;refine aP 38 ?_;refine aP 39 ?_
     refine aO 37 rfl (jF (aC (hlx) (by decide)).g (aC (hly) (by decide)).g (Nat.le_trans (iU (hlx) (hly)) (by decide))) mK ⟨aA rfl,aA rfl,rfl⟩ (.one (tv (.int .i64 (((x)-(y)).sign)))) ?_
     refine aO 40 rfl (jF (aC (hly) (by decide)).g (aC (hlx) (by decide)).g (Nat.le_trans (iU (hly) (hlx)) (by decide))) mK ⟨aA rfl,aA rfl,rfl⟩ (.one (tv (.int .i64 (((y)-(x)).sign)))) ?_
     refine df 41 ?_;refine df 42 ?_;refine WD.cast (t:=140) (u':=.bool false) rfl (congrArg Value.bool (decide_eq_false fun h=>h (sH x y))) ?_
     refine df 43 ?_;refine bU ?_;refine gY rfl ?_;refine sk ?_;refine sq ?_;refine rl ?_;refine ld ?_
     refine ca (tR (aC (hlx) (by decide)) (Nat.le_trans (hlx) (by decide))) zT ⟨aA rfl,rfl⟩ (.one (tv (.string (aS (gC x))))) ?_
     refine ca (pT (k:=x) (Nat.le_trans (sI hlx (by decide)) (by decide))) Fd ⟨a1 rfl,rfl⟩ (.tup [kF x,.one (tv (.int .i64 0))]) ?_
     (iterate 3 refine o1 ?_);refine al 5 ?_;refine st ?_;refine o1 ?_;refine nl ?_;refine sq ?_;refine sq ?_;refine rl ?_;refine o1 ?_;refine o1 ?_
     refine WL.cast (t:=149) (u':=.bool false) rfl (congrArg Value.bool (decide_eq_false (by decide))) ?_
     refine o1 ?_;refine ld ?_;refine ld ?_;refine ca (fN (k:=x) (hlx) (by decide)) eK ⟨aA rfl,aA rfl,rfl⟩ (.one (tv (.bool true))) ?_
     refine o1 ?_;refine o1 ?_;refine nl ?_;refine gY rfl ?_;refine sk ?_;refine sq ?_;refine rl ?_;refine ld ?_;refine ld ?_
     refine ca (tP (aC (hlx) (by decide)).g (aC (hly) (by decide)).g) vB ⟨aA rfl,aA rfl,rfl⟩ (kF ((Int.gcd x y:Nat):Int)) ?_
     refine al 6 ?_;refine st ?_;refine nl ?_;refine sq ?_;refine sq ?_;refine rl ?_;refine ld ?_
     refine ca (cB (aC (eV (hlx) (hly)) (by decide)).g) dO ⟨aA rfl,rfl⟩ (.one (tv (.int .i64 ((((Int.gcd x y:Nat):Int)).sign)))) ?_
     refine o1 ?_;refine nl ?_;refine eL rfl (fun h9=>?_) (fun h9=>?_)
     ·refine sq ?_;refine rl ?_;refine ld ?_;refine ca (cB (aC (hlx) (by decide)).g) dO ⟨aA rfl,rfl⟩ (.one (tv (.int .i64 ((x).sign)))) ?_
      refine o1 ?_;refine WL.cast (t:=164) (u':=.bool true) rfl (congrArg Value.bool (decide_eq_true (jD.2 (wC (jD.1 h9))))) ?_;refine o1 ?_;refine ld ?_
      refine ca (cB (aC (hly) (by decide)).g) dO ⟨aA rfl,rfl⟩ (.one (tv (.int .i64 ((y).sign)))) ?_
      refine o1 ?_;refine WL.cast (t:=168) (u':=.bool true) rfl (congrArg Value.bool (decide_eq_true (jD.2 (wD (jD.1 h9))))) ?_;refine o1 ?_;refine o1 ?_
      refine ca (eC) iW rfl (.one (tv (.bool true))) ?_;refine o1 ?_;refine o1 ?_;refine nl ?_;refine rt ?_;exact fY (.inl rfl) rfl (rfl)
     refine sk ?_;refine sq ?_;have hg0:((Int.gcd x y:Nat):Int)≠0:=fun e=>h9 (jD.2 e)
     refine rl ?_;refine ld ?_;refine ld ?_
     refine ca (kE (q:=(x).fdiv ((Int.gcd x y:Nat):Int)) (r:=(0:Int)) (aC (hlx) (by decide)).g (aC (eV (hlx) (hly)) (by decide)).g hg0 rfl (wE x y)) jW ⟨aA rfl,aA rfl,rfl⟩ (.tup [kF ((x).fdiv ((Int.gcd x y:Nat):Int)),kF ((0:Int)),.one (tv (.int .i64 0))]) ?_
     (iterate 4 refine o1 ?_);refine al 7 ?_;refine al 8 ?_;refine st ?_;refine st ?_;refine o1 ?_;refine nl ?_;refine sq ?_;refine rl ?_;refine ld ?_;refine ld ?_
     refine ca (kE (q:=(y).fdiv ((Int.gcd x y:Nat):Int)) (r:=(0:Int)) (aC (hly) (by decide)).g (aC (eV (hlx) (hly)) (by decide)).g hg0 rfl (wF x y)) jW ⟨aA rfl,aA rfl,rfl⟩ (.tup [kF ((y).fdiv ((Int.gcd x y:Nat):Int)),kF ((0:Int)),.one (tv (.int .i64 0))]) ?_
     (iterate 4 refine o1 ?_);refine al 9 ?_;refine al 10 ?_;refine st ?_;refine st ?_;refine o1 ?_;refine nl ?_;refine sq ?_;refine rl ?_;refine ld ?_
     refine ca (cB (aC (show Ln 0≤20 from Nat.zero_le 20) (by decide)).g) dO ⟨aA rfl,rfl⟩ (.one (tv (.int .i64 (((0:Int)).sign)))) ?_
     refine o1 ?_;refine WL.cast (t:=189) (u':=.bool true) rfl (congrArg Value.bool (decide_eq_true rfl)) ?_;refine o1 ?_;refine ld ?_
     refine ca (cB (aC (show Ln 0≤20 from Nat.zero_le 20) (by decide)).g) dO ⟨aA rfl,rfl⟩ (.one (tv (.int .i64 (((0:Int)).sign)))) ?_
     refine o1 ?_;refine WL.cast (t:=193) (u':=.bool true) rfl (congrArg Value.bool (decide_eq_true rfl)) ?_;refine o1 ?_;refine o1 ?_;refine ld ?_
     refine ca (cB (aC (eV (hlx) (hly)) (by decide)).g) dO ⟨aA rfl,rfl⟩ (.one (tv (.int .i64 ((((Int.gcd x y:Nat):Int)).sign)))) ?_
     refine o1 ?_;refine WL.cast (t:=198) (u':=.bool true) rfl (congrArg Value.bool (decide_eq_true (wG hg0))) ?_;refine o1 ?_;refine o1 ?_
     refine ca (eC) iW rfl (.one (tv (.bool true))) ?_;refine o1 ?_;refine o1 ?_;refine nl ?_;refine rt ?_;exact fY (.inl rfl) rfl (rfl)
    refine dI 23 ?_;refine dI 25 ?_;refine dI 24 ?_;refine dI 26 ?_;refine dI 27 ?_;refine df 28 ?_;refine df 29 ?_;refine df 30 ?_;refine aP 31 ?_;refine aP 33 ?_
    refine aO 32 rfl (tO (aC (gW (Nat.le_of_lt (eD hy0)) (hly)) (by decide)).g) zV ⟨aA rfl,rfl⟩ (kF (((x.fmod y).natAbs:Nat):Int)) ?_
    refine aO 34 rfl (tO (aC (hly) (by decide)).g) zV ⟨aA rfl,rfl⟩ (kF (((y).natAbs:Nat):Int)) ?_
    refine aO 35 rfl (jF (aC (gX (gW (Nat.le_of_lt (eD hy0)) (hly))) (by decide)).g (aC (gX (hly)) (by decide)).g (Nat.le_trans (iU (gX (gW (Nat.le_of_lt (eD hy0)) (hly))) (gX (hly))) (by decide))) mK ⟨aA rfl,aA rfl,rfl⟩ (.one (tv (.int .i64 ((((((x.fmod y).natAbs:Nat):Int))-((((y).natAbs:Nat):Int))).sign)))) ?_
    refine df 36 ?_;refine WD.cast (t:=94) (u':=.bool false) rfl (congrArg Value.bool (decide_eq_false (Dz (eD hy0)))) ?_;refine df 37 ?_;refine df 38 ?_;refine df 39 ?_
    refine bU ?_;refine gY rfl ?_;refine sk ?_;refine sq ?_;refine sq ?_;have hsb:=Fy (y-x)
    refine rd [0,1,2,3,4] (fun i=>[].contains i) mixed ?_
    refine aP 0 ?_;refine aP 1 ?_;refine aP 2 ?_;refine aP 5 ?_;refine aP 6 ?_;refine aP 8 ?_;refine aP 9 ?_
    refine aO 3 rfl (fS (K:=(y)+(z)) (aC (hly) (by decide)).g (aC (hlz) (by decide)).g rfl) kX ⟨aA rfl,aA rfl,rfl⟩ (kF ((y)+(z))) ?_
    refine aO 4 rfl (dM (K:=(x)*((y)+(z))) (aC (hlx) (by decide)).g (aC (fF (hly) (hlz)) (by decide)).g rfl) fC ⟨aA rfl,aA rfl,rfl⟩ (kF ((x)*((y)+(z)))) ?_
    refine aO 7 rfl (dM (K:=(x)*(y)) (aC (hlx) (by decide)).g (aC (hly) (by decide)).g rfl) fC ⟨aA rfl,aA rfl,rfl⟩ (kF ((x)*(y))) ?_
    refine aO 10 rfl (dM (K:=(x)*(z)) (aC (hlx) (by decide)).g (aC (hlz) (by decide)).g rfl) fC ⟨aA rfl,aA rfl,rfl⟩ (kF ((x)*(z))) ?_
    refine aO 11 rfl (fS (K:=(x)*((y)+(z))) (aC (eQ (hlx) (hly)) (by decide)).g (aC (eQ (hlx) (hlz)) (by decide)).g (Int.mul_add _ _ _).symm) kX ⟨aA rfl,aA rfl,rfl⟩ (kF ((x)*((y)+(z)))) ?_
    refine aO 12 rfl (fN (k:=(x)*((y)+(z))) (eQ (hlx) (fF (hly) (hlz))) (by decide)) eK ⟨aA rfl,aA rfl,rfl⟩ (.one (tv (.bool true))) ?_
    refine df 13 ?_;refine df 14 ?_;refine aP 15 ?_;refine aP 16 ?_;refine aP 18 ?_;refine aP 19 ?_
    refine aO 17 rfl (dM (K:=(x)*(y)) (aC (hlx) (by decide)).g (aC (hly) (by decide)).g rfl) fC ⟨aA rfl,aA rfl,rfl⟩ (kF ((x)*(y))) ?_
    refine aO 20 rfl (dM (K:=(x)*(y)) (aC (hly) (by decide)).g (aC (hlx) (by decide)).g (Int.mul_comm _ _)) fC ⟨aA rfl,aA rfl,rfl⟩ (kF ((x)*(y))) ?_
    refine aO 21 rfl (fN (k:=(x)*(y)) (eQ (hlx) (hly)) (by decide)) eK ⟨aA rfl,aA rfl,rfl⟩ (.one (tv (.bool true))) ?_
    refine df 22 ?_;refine df 23 ?_;refine df 24 ?_;refine aP 25 ?_;refine aP 26 ?_;refine aP 28 ?_;refine aP 30 ?_
    refine aO 27 rfl (fS (K:=(x)+(y)) (aC (hlx) (by decide)).g (aC (hly) (by decide)).g rfl) kX ⟨aA rfl,aA rfl,rfl⟩ (kF ((x)+(y))) ?_
    refine aO 29 rfl (wH (K:=x) (aC (fF (hlx) (hly)) (by decide)).g (aC (hly) (by decide)).g (by omega)) zW ⟨aA rfl,aA rfl,rfl⟩ (kF (x)) ?_
    refine aO 31 rfl (fN (k:=x) (hlx) (by decide)) eK ⟨aA rfl,aA rfl,rfl⟩ (.one (tv (.bool true))) ?_
    refine df 32 ?_;refine df 33 ?_;refine df 34 ?_;refine aP 35 ?_;refine aP 36 ?_;refine aP 38 ?_;refine aP 39 ?_
    refine aO 37 rfl (jF (aC (hlx) (by decide)).g (aC (hly) (by decide)).g (Nat.le_trans (iU (hlx) (hly)) (by decide))) mK ⟨aA rfl,aA rfl,rfl⟩ (.one (tv (.int .i64 (((x)-(y)).sign)))) ?_
    refine aO 40 rfl (jF (aC (hly) (by decide)).g (aC (hlx) (by decide)).g (Nat.le_trans (iU (hly) (hlx)) (by decide))) mK ⟨aA rfl,aA rfl,rfl⟩ (.one (tv (.int .i64 (((y)-(x)).sign)))) ?_
    refine df 41 ?_;refine df 42 ?_;refine WD.cast (t:=140) (u':=.bool false) rfl (congrArg Value.bool (decide_eq_false fun h=>h (sH x y))) ?_
    refine df 43 ?_;refine bU ?_;refine gY rfl ?_;refine sk ?_;refine sq ?_;refine rl ?_;refine ld ?_
    refine ca (tR (aC (hlx) (by decide)) (Nat.le_trans (hlx) (by decide))) zT ⟨aA rfl,rfl⟩ (.one (tv (.string (aS (gC x))))) ?_
    refine ca (pT (k:=x) (Nat.le_trans (sI hlx (by decide)) (by decide))) Fd ⟨a1 rfl,rfl⟩ (.tup [kF x,.one (tv (.int .i64 0))]) ?_
    (iterate 3 refine o1 ?_);refine al 5 ?_;refine st ?_;refine o1 ?_;refine nl ?_;refine sq ?_;refine sq ?_;refine rl ?_;refine o1 ?_;refine o1 ?_
    refine WL.cast (t:=149) (u':=.bool false) rfl (congrArg Value.bool (decide_eq_false (by decide))) ?_
    refine o1 ?_;refine ld ?_;refine ld ?_;refine ca (fN (k:=x) (hlx) (by decide)) eK ⟨aA rfl,aA rfl,rfl⟩ (.one (tv (.bool true))) ?_
    refine o1 ?_;refine o1 ?_;refine nl ?_;refine gY rfl ?_;refine sk ?_;refine sq ?_;refine rl ?_;refine ld ?_;refine ld ?_
    refine ca (tP (aC (hlx) (by decide)).g (aC (hly) (by decide)).g) vB ⟨aA rfl,aA rfl,rfl⟩ (kF ((Int.gcd x y:Nat):Int)) ?_
    refine al 6 ?_;refine st ?_;refine nl ?_;refine sq ?_;refine sq ?_;refine rl ?_;refine ld ?_
    refine ca (cB (aC (eV (hlx) (hly)) (by decide)).g) dO ⟨aA rfl,rfl⟩ (.one (tv (.int .i64 ((((Int.gcd x y:Nat):Int)).sign)))) ?_
    refine o1 ?_;refine nl ?_;refine eL rfl (fun h10=>?_) (fun h10=>?_)
    ·refine sq ?_;refine rl ?_;refine ld ?_;refine ca (cB (aC (hlx) (by decide)).g) dO ⟨aA rfl,rfl⟩ (.one (tv (.int .i64 ((x).sign)))) ?_
     refine o1 ?_;refine WL.cast (t:=164) (u':=.bool true) rfl (congrArg Value.bool (decide_eq_true (jD.2 (wC (jD.1 h10))))) ?_;refine o1 ?_;refine ld ?_
     refine ca (cB (aC (hly) (by decide)).g) dO ⟨aA rfl,rfl⟩ (.one (tv (.int .i64 ((y).sign)))) ?_
     refine o1 ?_;refine WL.cast (t:=168) (u':=.bool true) rfl (congrArg Value.bool (decide_eq_true (jD.2 (wD (jD.1 h10))))) ?_;refine o1 ?_;refine o1 ?_
     refine ca (eC) iW rfl (.one (tv (.bool true))) ?_;refine o1 ?_;refine o1 ?_;refine nl ?_;refine rt ?_;exact fY (.inl rfl) rfl (rfl)
    refine sk ?_;refine sq ?_;have hg0:((Int.gcd x y:Nat):Int)≠0:=fun e=>h10 (jD.2 e)
    refine rl ?_;refine ld ?_;refine ld ?_
    refine ca (kE (q:=(x).fdiv ((Int.gcd x y:Nat):Int)) (r:=(0:Int)) (aC (hlx) (by decide)).g (aC (eV (hlx) (hly)) (by decide)).g hg0 rfl (wE x y)) jW ⟨aA rfl,aA rfl,rfl⟩ (.tup [kF ((x).fdiv ((Int.gcd x y:Nat):Int)),kF ((0:Int)),.one (tv (.int .i64 0))]) ?_
    (iterate 4 refine o1 ?_);refine al 7 ?_;refine al 8 ?_;refine st ?_;refine st ?_;refine o1 ?_;refine nl ?_;refine sq ?_;refine rl ?_;refine ld ?_;refine ld ?_
    refine ca (kE (q:=(y).fdiv ((Int.gcd x y:Nat):Int)) (r:=(0:Int)) (aC (hly) (by decide)).g (aC (eV (hlx) (hly)) (by decide)).g hg0 rfl (wF x y)) jW ⟨aA rfl,aA rfl,rfl⟩ (.tup [kF ((y).fdiv ((Int.gcd x y:Nat):Int)),kF ((0:Int)),.one (tv (.int .i64 0))]) ?_
    (iterate 4 refine o1 ?_);refine al 9 ?_;refine al 10 ?_;refine st ?_;refine st ?_;refine o1 ?_;refine nl ?_;refine sq ?_;refine rl ?_;refine ld ?_
    refine ca (cB (aC (show Ln 0≤20 from Nat.zero_le 20) (by decide)).g) dO ⟨aA rfl,rfl⟩ (.one (tv (.int .i64 (((0:Int)).sign)))) ?_
    refine o1 ?_;refine WL.cast (t:=189) (u':=.bool true) rfl (congrArg Value.bool (decide_eq_true rfl)) ?_;refine o1 ?_;refine ld ?_
    refine ca (cB (aC (show Ln 0≤20 from Nat.zero_le 20) (by decide)).g) dO ⟨aA rfl,rfl⟩ (.one (tv (.int .i64 (((0:Int)).sign)))) ?_
    refine o1 ?_;refine WL.cast (t:=193) (u':=.bool true) rfl (congrArg Value.bool (decide_eq_true rfl)) ?_;refine o1 ?_;refine o1 ?_;refine ld ?_
    refine ca (cB (aC (eV (hlx) (hly)) (by decide)).g) dO ⟨aA rfl,rfl⟩ (.one (tv (.int .i64 ((((Int.gcd x y:Nat):Int)).sign)))) ?_
    refine o1 ?_;refine WL.cast (t:=198) (u':=.bool true) rfl (congrArg Value.bool (decide_eq_true (wG hg0))) ?_;refine o1 ?_;refine o1 ?_
    refine ca (eC) iW rfl (.one (tv (.bool true))) ?_;refine o1 ?_;refine o1 ?_;refine nl ?_;refine rt ?_;exact fY (.inl rfl) rfl (rfl)
   refine o1 ?_;refine o1 ?_;refine nl ?_;refine lG rfl ?_;refine sq ?_;refine rl ?_;refine ca (eC) iW rfl (.one (tv (.bool true))) ?_;refine o1 ?_;refine nl ?_;refine rt ?_
   exact fY (.inl rfl) rfl (rfl)
  (iterate 3 refine o1 ?_);(iterate 3 refine dY ?_);refine o1 ?_;refine nl ?_;refine lG rfl ?_;refine sq ?_;refine rl ?_;refine ca (eC) iW rfl (.one (tv (.bool true))) ?_
  refine o1 ?_;refine nl ?_;refine rt ?_;exact fY (.inl rfl) rfl (rfl)
 (iterate 3 refine o1 ?_);(iterate 3 refine dY ?_);refine o1 ?_;refine o1 ?_;(iterate 3 refine dY ?_);refine o1 ?_;refine nl ?_;refine lG rfl ?_;refine sq ?_;refine rl ?_
 refine ca (eC) iW rfl (.one (tv (.bool true))) ?_;refine o1 ?_;refine nl ?_;refine rt ?_;exact fY (.inl rfl) rfl (rfl)
end Go.Proofs.YteggpgndiajdpaaGreatDoor
namespace Go.Proofs.YteggpgndiajdpaaGreatDoor
open Go Go.RowKit Go.ChangeShapes
def Reads (P:Program) (t:TypeId) (z:Nat) (T:List Tr→Prop):Prop:=
 P.cellsOf t=z∧∀(H:Type) (enc:TypeId×Value→H) (w:World) (fuel:Nat) (cs:List Value) (x:DataW H×List MemPlace),DataW.trod enc P w 0 (fun _=>true) true fuel t cs=some x→∃l,T l∧l.length=z∧FRL w (sJ w) l cs
theorem yW {W:World}{N:Nat→Prop}:∀{l l':List Tr}{us us':List Value},FRL W N l us→FRL W N l' us'→FRL W N (l++l') (us++us')
 | [],l',us,us',h,h'=>by simp only[FRL]at h;subst h;exact h'
 | x::l,l',u::us,us',h,h'=>by simp only[FRL,List.cons_append]at*;exact⟨h.1,yW h.2 h'⟩
 | _::_,_,[],_,h,_=>by simp only[FRL]at h
theorem yX {W:World}{N:Nat→Prop}:∀{l:List Tr}{us:List Value}{j:Nat}{x:Tr},FRL W N l us→l[j]? =some x→∃u,us[j]? =some u∧FR W N x u
 | [],_,_,_,_,h=>by simp at h
 | y::l,u::us,0,x,h,e=>by
  simp only[FRL]at h
  simp at e
  subst e
  exact⟨u,rfl,h.1⟩
 | y::l,u::us,j+1,x,h,e=>by
  simp only[FRL]at h
  exact yX (j:=j) h.2 (by simpa using e)
 | _::_,[],_,_,h,_=>by simp only[FRL]at h
section
variable {P:Program}{t e:TypeId}{k:IntKind}{z:Nat}{T T':List Tr→Prop}
theorem Reads.mono (h:Reads P t z T) (hi:∀l,T l→T' l):Reads P t z T':=⟨h.1,fun H enc w fuel cs x hx=>let ⟨l,a,b⟩:=h.2 H enc w fuel cs x hx;⟨l,hi l a,b⟩⟩
theorem Jv (ht:P.underlying t=some .bool) (hz:P.cellsOf t=1):Reads P t 1 (fun l=>∃b,l=[.v (.bool b)]):=⟨hz,fun H enc w fuel cs x hx=>by
 obtain⟨b,rfl,_⟩:=DataW.trod_bool ht hx
 exact⟨_,⟨b,rfl⟩,rfl,by simp[FRL,FR]⟩⟩
theorem Nz (ht:P.underlying t=some (.int k)) (hz:P.cellsOf t=1):Reads P t 1 (fun l=>∃n,l=[.v (.int k n)]∧k.min≤n∧n≤k.max):=⟨hz,fun H enc w fuel cs x hx=>by
 obtain⟨n,rfl,_,h⟩:=DataW.trod_int ht hx
 simp only[Lit.wf,Bool.and_eq_true,decide_eq_true_eq]at h
 exact⟨_,⟨n,rfl,h⟩,rfl,by simp[FRL,FR]⟩⟩
inductive Flds (P:Program):Nat→List Field→Nat→(List Tr→Prop)→Prop
 | nil {o:Nat}:Flds P o [] 0 (· =[])
 | cons {o z z':Nat}{f:Field}{fs:List Field}{T T':List Tr→Prop}(ho:f.offset=o) (h:Reads P f.type z T) (h':Flds P (o+z) fs z' T'):Flds P o (f::fs) (z+z') (fun l=>∃a b,l=a++b∧T a∧T' b)
theorem Flds.read {H:Type}{enc:TypeId×Value→H}{w:World}{n o:Nat}{fs:List Field}(h:Flds P o fs z T):∀{cs:List Value},o+z≤cs.length→(∀f∈fs,∃x,DataW.trod enc P w 0 (fun _=>true) true n f.type ((cs.drop f.offset).take (P.cellsOf f.type))=some x)→∃l,T l∧l.length=z∧FRL w (sJ w) l ((cs.drop o).take z):=by
 induction h with
 | nil=>exact fun _ _=>⟨[],rfl,rfl,by simp[FRL]⟩
 | @cons o z z' f fs T T' ho hr _ ih=>
  intro cs hl hf
  obtain⟨b,h1,h2,h3⟩:=ih (cs:=cs) (by omega) fun f hm=>hf f (List.mem_cons_of_mem _ hm)
  obtain⟨x,hx⟩:=hf f List.mem_cons_self
  obtain⟨a,g1,g2,g3⟩:=hr.2 H enc w n _ x hx
  rw[ho,hr.1]at g3
  refine⟨a++b,⟨a,b,rfl,g1,h1⟩,by simp[g2,h2],?_⟩
  rw[List.take_add,List.drop_drop]
  exact yW g3 h3
theorem Ea {fs:List Field}{z':Nat}(ht:P.underlying t=some (.struct fs.toArray)) (hz:P.cellsOf t=z) (h:Flds P 0 fs z' T) (e:z'=z:=by rfl):Reads P t z T:=⟨hz,fun H enc w fuel cs x hx=>by
 subst e
 obtain⟨xs,n,_,rfl,hl,hlen,hf⟩:=DataW.trod_struct ht hx
 rw[hz]at hl
 obtain⟨l,h1,h2,h3⟩:=h.read (H:=H) (enc:=enc) (w:=w) (n:=n) (cs:=cs) (by omega) fun f hm=>by
  obtain⟨i,hi⟩:=List.mem_iff_getElem?.1 hm
  have h1:=hf i f (by simpa using hi)
  have h2:i<xs.length:=by
   have:=(List.getElem?_eq_some_iff.1 hi).1
   simp at hlen
   omega
  rw[List.getElem?_eq_getElem h2]at h1
  exact⟨_,h1⟩
 refine⟨l,h1,h2,?_⟩
 rw[List.drop_zero,List.take_of_length_le (by omega)]at h3
 exact h3⟩
theorem Fz (ht:P.underlying t=some (.slice e)) (hz:P.cellsOf t=1) (hz0:0<z) (h:Reads P e z T):Reads P t 1 (fun l=>∃rows:List (List Tr),(∀r∈rows,T r∧r.length=z)∧l=[.s false e z rows.length rows.flatten]):=⟨hz,fun H enc w fuel cs x hx=>by
 have hlen:∀(rows:List (List Tr)),(∀r∈rows,T r∧r.length=z)→rows.flatten.length=rows.length*z:=by
  intro rows
  induction rows with
  | nil=>intro _;simp
  | cons r rows ih=>
   intro hr
   rw[List.flatten_cons,List.length_append,(hr r List.mem_cons_self).2,ih fun r hm=>hr r (List.mem_cons_of_mem _ hm),List.length_cons,Nat.succ_mul,Nat.add_comm]
 rcases Deep.open_slice ht hx with⟨rfl,_⟩ | ⟨a,len,cap,m,n,D,Pl,rfl,_,hl,hm,hmm,_,hel⟩
 ·refine⟨_,⟨[],fun _ h=>(by cases h),rfl⟩,rfl,?_⟩
  simp only[FRL,FR,and_true]
  exact⟨none,0,rfl,Nat.le_refl _,by omega,by simp,.inl rfl⟩
 have hmc:m=cap:=by simpa using hmm
 rw[h.1]at hel
 have hex:∀i:Nat,∃l:List Tr,i<len→T l∧l.length=z∧∀j y,l[j]? =some y→∃u,w.cell? ((a.add (i*z)).add j)=some u∧FR w (sJ w) y u:=fun i=>by
  by_cases hi:i<len
  ·obtain⟨cs',h1,h2⟩:=hel i (by omega)
   obtain⟨l,g1,g2,g3⟩:=h.2 H enc w n cs' _ h2
   obtain⟨_,h3,h4⟩:=World.cells?_some h1
   refine⟨l,fun _=>⟨g1,g2,fun j y hj=>?_⟩⟩
   obtain⟨u,hu,hy⟩:=yX g3 hj
   have hjl:=(List.getElem?_eq_some_iff.1 hj).1
   exact⟨u,by rw[h4 j (by omega),hu],hy⟩
  exact⟨[],fun h=>absurd h hi⟩
 have hF:=fun i=>Classical.choose_spec (hex i)
 have hrow:∀r∈(List.range len).map (fun i=>Classical.choose (hex i)),T r∧r.length=z:=fun r hr=>by
  obtain⟨i,hi,rfl⟩:=List.mem_map.1 hr
  have:=hF i (List.mem_range.1 hi)
  exact⟨this.1,this.2.1⟩
 refine⟨_,⟨_,hrow,rfl⟩,rfl,?_⟩
 have h5:=hlen _ hrow
 simp only[FRL,and_true,FR]
 refine⟨some a,cap,by simp,by simpa using hl,by unfold maxLen at hm;omega,h5,?_⟩
 rcases Nat.eq_zero_or_pos len with h0 | h0
 ·exact .inl (by simp[h0])
 refine .inr ⟨a,rfl,?_,nJ fun j y hj=>?_⟩
 ·obtain⟨_,g2,g3⟩:=hF 0 h0
  obtain⟨u,hu,_⟩:=g3 0 _ (List.getElem?_eq_getElem (by omega))
  have:=World.block_lt_of_cell? w ((a.add (0*z)).add 0) hu
  rwa[dR,dR]at this
 have hjl:=(List.getElem?_eq_some_iff.1 hj).1
 rw[h5,List.length_map,List.length_range]at hjl
 have hi:j/z<len:=Nat.div_lt_of_lt_mul (by rw[Nat.mul_comm];exact hjl)
 obtain⟨_,g2,g3⟩:=hF (j/z) hi
 have hz1:=Nat.mod_lt j hz0
 have hget:∀(rows:List (List Tr)),(∀r∈rows,T r∧r.length=z)→∀(i o:Nat) (r:List Tr),rows[i]? =some r→o<z→rows.flatten[i*z+o]? =r[o]? :=by
  intro rows
  induction rows with
  | nil=>intro _ i o r h;simp at h
  | cons r rows ih=>
   intro hr i o r' hi ho
   have hrl:=(hr r List.mem_cons_self).2
   cases i with
   | zero=>
    simp at hi
    subst hi
    rw[Nat.zero_mul,Nat.zero_add,List.flatten_cons,List.getElem?_append_left (by omega)]
   | succ i=>
    rw[List.flatten_cons,List.getElem?_append_right (by rw[Nat.succ_mul];omega),hrl,show(i+1)*z+o-z=i*z+o by rw[Nat.succ_mul];omega]
    exact ih (fun r hm=>hr r (List.mem_cons_of_mem _ hm)) i o r' (by simpa using hi) ho
 have hd:=Nat.div_add_mod j z
 rw[Nat.mul_comm]at hd
 rw[←hd,hget _ hrow (j/z) (j%z) (Classical.choose (hex (j/z))) (by simp[hi]) hz1]at hj
 obtain⟨u,hu,hy⟩:=g3 _ _ hj
 refine⟨u,?_,hy⟩
 rw[Nat.zero_add]
 have e2:(a.add (j/z*z)).add (j%z)=a.add j:=by rw[lB,hd]
 rwa[e2]at hu⟩
theorem yY {α:Type}(f:α→List Tr) (Q:α→Prop):∀{rows:List (List Tr)},(∀r∈rows,∃a,Q a∧r=f a)→∃xs:List α,(∀a∈xs,Q a)∧rows.flatten=xs.flatMap f∧rows.length=xs.length
 | [],_=>⟨[],fun _ h=>(by cases h),rfl,rfl⟩
 | r::rows,h=>by
  obtain⟨a,h1,rfl⟩:=h r List.mem_cons_self
  obtain⟨xs,h2,h3,h4⟩:=yY f Q fun r hm=>h r (List.mem_cons_of_mem _ hm)
  exact⟨a::xs,fun b hb=>(List.mem_cons.1 hb).elim (fun e=>e▸h1) (h2 b),by simp[h3],by simp[h4]⟩
theorem Ga (ht:P.underlying t=some (.slice e)) (he:P.underlying e=some (.int .u32)) (hz:P.cellsOf t=1) (hze:P.cellsOf e=1) (hn:e=22):Reads P t 1 (fun l=>∃xs:List Nat,Lim 4294967296 xs∧l=[sU false xs]):=
 (Fz ht hz (by omega) (Nz he hze)).mono fun l ⟨rows,h1,h2⟩=>by
  obtain⟨xs,h3,h4,h5⟩:=yY (fun n:Nat=>[Tr.v (.int .u32 (n:Int))]) (fun n=>n<4294967296) (rows:=rows) fun r hr=>by
   obtain⟨⟨n,rfl,h1,h2⟩,_⟩:=h1 r hr
   have e1:IntKind.u32.min=0:=rfl
   have e2:IntKind.u32.max=4294967295:=rfl
   rw[e1]at h1
   rw[e2]at h2
   exact⟨n.toNat,by omega,by rw[Int.toNat_of_nonneg h1]⟩
  refine⟨xs,h3,?_⟩
  rw[h2,h4,h5,sU,hn]
  have:∀xs:List Nat,xs.flatMap (fun n:Nat=>[Tr.v (.int .u32 (n:Int))])=aZ xs:=by
   intro xs
   induction xs with
   | nil=>rfl
   | cons n xs ih=>rw[List.flatMap_cons,ih];rfl
  rw[this]
theorem Jw (hb:Reads P t z (fun l=>∃a b,l=a++b∧(∃s,a=[.v (.bool s)])∧∃b' c',b=b'++c'∧(∃xs:List Nat,Lim 4294967296 xs∧b'=[sU false xs])∧c'=[])):Reads P t z (fun l=>∃(s:Bool) (xs:List Nat),Lim 4294967296 xs∧l=[.v (.bool s),sU false xs]):=
 hb.mono fun l ⟨a,b,h1,⟨s,h2⟩,b',c',h3,⟨xs,h4,h5⟩,h6⟩=>⟨s,xs,h4,by rw[h1,h2,h3,h5,h6];rfl⟩
end
def LimF (a:Fr4):Prop:=Lim 4294967296 a.x∧Lim 4294967296 a.y
theorem LimF.ok {a:Fr4}(h:LimF a) (h2:a.x.length≤6∧a.y.length≤6):a.ok:=⟨h.1,h.2,by omega,by omega⟩
end Go.Proofs.YteggpgndiajdpaaGreatDoor
namespace Go.Proofs.YteggpgndiajdpaaGreatDoor
open Go Go.ChangeShapes Go.WideShapes Go.ChangeAt Go.RowKit
theorem Oa:Tryz.prog.cellsOf 44=2:=by kernel_rfl
theorem Jx:Tryz.prog.cellsOf 4=1:=by kernel_rfl
theorem Oc:Tryz.prog.cellsOf 22=1:=by kernel_rfl
theorem Gb:Tryz.prog.cellsOf 23=1:=by kernel_rfl
theorem tS:Reads Tryz.prog 44 2 (fun l=>∃a:Zi,Lim 4294967296 a.x∧l=Ql false a):=by
 have h1:=Jv Tryz.underlying4 Jx
 have h2:=Ga Tryz.underlying23 Tryz.underlying22 Gb Oc rfl
 have h3:=Ea Tryz.underlying44 Oa (.cons rfl h1 (.cons rfl h2 .nil))
 exact(Jw h3).mono fun l ⟨s,xs,h4,h5⟩=>⟨⟨s,xs⟩,h4,h5⟩
theorem yZ {W:World}{N:Nat→Prop}:∀{l:List Tr}{us:List Value},FRL W N l us→ARL W N [] (l.map .t) us
 | [],us,h=>by simpa[FRL,ARL]using h
 | x::l,u::us,h=>by
  simp only[FRL]at h
  simp only[List.map_cons,ARL,AR]
  exact⟨h.1,yZ h.2⟩
 | _::_,[],h=>by simp only[FRL]at h
theorem tT {W:World}{l:List Tr}{cs:Array Value}(h:FRL W (sJ W) l (Value.agg cs).cells.toList):aR W (sJ W) [] (.agg (l.map .t)) (.agg cs):=⟨cs.toList,by simp,yZ (by simpa[Value.cells]using h)⟩
end Go.Proofs.YteggpgndiajdpaaGreatDoor
