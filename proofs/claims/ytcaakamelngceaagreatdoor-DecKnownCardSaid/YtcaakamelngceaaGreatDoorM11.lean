/- Part 11 of a proof: P0 to Q1. -/
import Derived.Test.YtcaakamelngceaaGreatDoorM10
import Derived.Test.YtcaakamelngceaaGreatDoorM7
import Derived.Test.YtcaakamelngceaaGreatDoorM5
set_option maxRecDepth 100000
set_option linter.unusedVariables false
set_option linter.unusedSimpArgs false
namespace Go.Proofs.YtcaakamelngceaaGreatDoor
open Go Go.RowKit
theorem rE {l:List Nat}(h:decide (l=[])=false):0<l.length:=by
 cases l with
 | nil=>simp at h
 | cons _ _=>simp
theorem Lw {l:List Nat}{j:Nat}(h:(!decide (l.drop j=[]))=true):j<l.length:=by
 rcases Nat.lt_or_ge j l.length with h1 | h1
 ·exact h1
 rw[List.drop_of_length_le h1]at h;simp at h
theorem Lx {l:List Nat}{j:Nat}(h:(!decide (l.drop j=[]))=false):l.length≤j:=by
 rcases Nat.lt_or_ge j l.length with h1 | h1
 ·have h2:=of_decide_eq_true (Ta h)
  have h3:=congrArg List.length h2
  rw[List.length_drop,List.length_nil]at h3
  omega
 exact h1
theorem EK {l:List Nat}(hl:Lim 256 l) (hn:l.length≤9223372036854775807):aE true Tryz.prog 126 [] [.one (tv (.string (aC l)))] (aM (.tup [.one (.t (sU true (dg 4294967296 (Li l)))),.one (tv (.int .i64 (tW l)))])):=by
 refine bD Tryz.func126 rfl Tryz.ntmps126 rfl aA rfl fun N9 w9 c0 h0=>?_
 refine sq ?_;refine rl ?_;refine o1 ?_;refine o1 ?_;refine nl ?_;refine sq ?_;refine bl ?_;refine sq ?_;refine sq ?_;refine rl ?_;refine o1 ?_;refine o1 ?_
 refine WL.cast (t:=10) (u':=.bool (decide (l=[]))) rfl (congrArg Value.bool (iD hl)) ?_;refine o1 ?_;refine nl ?_;refine iW rfl (fun h1=>?_) (fun h1=>?_)
 ·refine sk ?_;refine fV (congrArg (fun b=>FV.one (tv (.bool b))) h1) ?_
  refine sq ?_;refine rl ?_;refine o1 ?_;refine o1 ?_;refine nl ?_;refine rt ?_;have he:=Es (OJ h1)
  exact en (.inl rfl) rfl (dE (.cons (.one (.nil (t:=115) (z:=1))) (.cons (aP _) .nil))) (by decide) (fun _=>⟨.inl ⟨rfl,trivial⟩,trivial,trivial⟩) (by rw[he,wA (by rw[he];decide)];rfl)
 refine sq ?_;have hp9:=rE h1
 refine rl ?_;refine o1 ?_;refine o1 ?_
 refine WL.cast (t:=12) (u':=.bool (!decide (l=[48]))) rfl (congrArg Value.bool (congrArg not (jS (l':=[48]) hl (Lim.cons (by omega) Lim.nil)))) ?_
 refine o1 ?_;refine WL.splitb (t:=13) rfl (fun h2=>?_) (fun h2=>?_)
 ·refine o1 ?_;refine o1 ?_ (hC:=(by rw[aF];show 0<l.length;omega))
  refine WL.cast (t:=15) (u':=.int .u8 (((nth l 0):Nat):Int)) rfl (congrArg (fun n:Nat=>Value.int .u8 (n:Int)) (eI (i:=0) (by omega) (dT hl (by omega)))) ?_
  (iterate 3 refine o1 ?_);refine nl ?_;refine bN rfl (fun h3=>?_) (fun h3=>?_)
  ·refine sk ?_;refine bN rfl (fun h4=>?_) (fun h4=>?_)
   ·refine sq ?_;refine rl ?_;refine o1 ?_;refine o1 ?_;refine nl ?_;refine rt ?_;have he:=Es (OK (Ly h2) (by omega))
    exact en (.inl rfl) rfl (dE (.cons (.one (.nil (t:=115) (z:=1))) (.cons (aP _) .nil))) (by decide) (fun _=>⟨.inl ⟨rfl,trivial⟩,trivial,trivial⟩) (by rw[he,wA (by rw[he];decide)];rfl)
   omega
  refine rl ?_;refine o1 ?_;refine ca (Hb hn) Pj ⟨a1 rfl,a1 rfl,rfl⟩ (.one (tv (.string ⟨(Lib.trimS (aC l).data.toList [48,49,50,51,52,53,54,55,56,57]).toArray⟩))) ?_
  refine o1 ?_;refine WL.cast (t:=20) (u':=.bool (!tV l)) rfl (congrArg Value.bool (congrArg not (Lh hl))) ?_;refine o1 ?_;refine nl ?_;refine iW rfl (fun h5=>?_) (fun h5=>?_)
  ·refine sq ?_;refine rl ?_;refine o1 ?_;refine o1 ?_;refine nl ?_;refine rt ?_;have he:=Es (Ox (Ly h5))
   exact en (.inl rfl) rfl (dE (.cons (.one (.nil (t:=115) (z:=1))) (.cons (aP _) .nil))) (by decide) (fun _=>⟨.inl ⟨rfl,trivial⟩,trivial,trivial⟩) (by rw[he,wA (by rw[he];decide)];rfl)
  refine sq ?_;have hg:=yW h1 (.inr (by omega)) (Ta h5)
  have hdg:=Si hg
  refine rl ?_;refine o1 ?_;refine o1 ?_;refine WL.cast (t:=23) (u':=.int .i64 ((l.length:Nat):Int)) rfl (congrArg (fun n:Nat=>Value.int .i64 (n:Int)) (aF _)) ?_
  refine o1 ?_;refine o1 ?_;refine nl ?_;refine bN rfl (fun h6=>?_) (fun h6=>?_)
  ·refine sq ?_;refine rl ?_;refine o1 ?_;refine o1 ?_;refine nl ?_;refine rt ?_;have he:=IG hg (by omega)
   exact en (.inl rfl) rfl (dE (.cons (.one (.nil (t:=115) (z:=1))) (.cons (aP _) .nil))) (by decide) (fun _=>⟨.inl ⟨rfl,trivial⟩,trivial,trivial⟩) (by rw[he,wA (by rw[he];decide)];rfl)
  refine sk ?_;refine sq ?_;refine rl ?_;refine o1 ?_;refine nl ?_;refine sq ?_;refine sq ?_;refine rl ?_;refine o1 ?_;refine o1 ?_
  refine WL.cast (t:=26) (u':=.int .i64 ((l.length:Nat):Int)) rfl (congrArg (fun n:Nat=>Value.int .i64 (n:Int)) (aF _)) ?_
  refine o1 ?_;refine WL.cast (t:=27) (u':=.int .i64 ((l.length%9:Nat):Int)) rfl (aH (fF _ 9)) ?_;refine o1 ?_;refine nl ?_;refine bl ?_
  refine lp (γ:=Nat×Nat) (fun s=>cD [(0,.one (tv (.string (aC (l.drop s.1))))),(4,.one (.sl 0 0 ((dg 4294967296 (bX (l.take s.1))).length))),(5,.one (tv (.int .i64 ((s.2:Nat):Int))))]) (fun s=>[(⟨115,1,(aR (dg 4294967296 (bX (l.take s.1)))).map .t⟩:Ob)].map some) (fun s=>s.1≤l.length∧(s.1=0∧s.2=l.length%9∨0<s.1∧s.2=9∧(l.length-s.1)%9=0)) (fun s=>l.length-s.1) (0,l.length%9) ⟨Nat.zero_le _,.inl ⟨rfl,rfl⟩⟩ ((nr (i:=4) 0 115 1 rfl rfl rfl rfl).trans (aO h0 [0] _ _ (by decide) ⟨rfl,rfl,rfl,trivial⟩ ⟨cM (l:=[]) rfl,rfl⟩)) ?_
  rintro⟨j,f⟩ ⟨hj,hf⟩;dsimp only at hj hf⊢;refine sq ?_;refine sq ?_;refine rl ?_;refine o1 ?_;refine o1 ?_
  refine WL.cast (t:=29) (u':=.bool (!decide (l.drop j=[]))) rfl (congrArg Value.bool (congrArg not (iD (mJ hl j)))) ?_;refine nl ?_
  refine iW rfl (fun h7=>?_) (fun h7=>?_)
  ·refine sk ?_;refine sq ?_;refine bl ?_;refine sq ?_;refine sq ?_;have hjl:=Lw h7
   refine rl ?_;refine o1 ?_;refine o1 ?_;refine nl ?_;refine bN rfl (fun h8=>?_) (fun h8=>?_)
   ·refine rl ?_;refine o1 ?_;refine nl ?_;refine sq ?_;refine rl ?_;refine o1 ?_;refine o1 ?_;refine o1 ?_ (hC:=(by rw[aF,List.length_drop];show 9≤l.length-j;omega))
    refine WL.cast (t:=35) (u':=.string (aC ((l.drop j).take 9))) rfl (congrArg Value.string ((iE _ 0 _).trans rfl)) ?_
    refine ca (zK (l:=((l.drop j).take 9)) (sH hdg j 9) (by rw[List.length_take,List.length_drop];omega) (by rw[List.length_take];omega)) Fb ⟨a1 rfl,rfl⟩ (.tup [.one (tv (.int .i64 ((bX ((l.drop j).take 9):Nat):Int))),.one (tv .nilIface)]) ?_
    (iterate 5 refine o1 ?_);refine nl ?_;refine sq ?_;have hpl:=sJ hdg (j:=j) (f:=9) (by omega) (by omega)
    have hpc:=pX (l:=l) (j:=j) (f:=9) (by omega) (by omega)
    have hl1:=rA hdg hj
    have hl2:=lM (bX (l.take j)) 1000000000
    have hl3:(dg 4294967296 1000000000).length≤1:=bQ (by omega) (by decide)
    refine rl ?_;refine o1 ?_
    refine ca (yY (u:=bX (l.take j)) (m:=1000000000) (by omega) (by omega)) zL ⟨pA rfl (.sl rfl rfl (lI _) (aY _)),a1 rfl,rfl⟩ (.one (.t (sU false (dg 4294967296 (bX (l.take j)*1000000000))))) ?_
    refine o1 ?_;refine o1 ?_;refine WL.cast (t:=42) (u':=.int .u32 ((bX ((l.drop j).take 9):Nat):Int)) rfl (aH (by omega)) ?_
    refine bs 1 ?_
    refine gG 2 (zA (u:=bX (l.take j)*1000000000) (x:=bX ((l.drop j).take 9)) (by omega) (by omega)) vZ ⟨a1 rfl,pA rfl (.sl (trs:=aR [bX ((l.drop j).take 9)]) rfl rfl rfl rfl),rfl⟩ ?_
    refine o1 ?_;refine nl ?_;refine rl ?_;refine o1 ?_;refine o1 ?_;refine o1 ?_ (hC:=(by rw[aF,List.length_drop];show 9≤l.length-j;omega))
    refine WL.cast (t:=47) (u':=.string (aC ((l.drop j).drop 9))) rfl (congrArg Value.string (iC _ _)) ?_;refine o1 ?_;refine nl ?_;refine rl ?_;refine o1 ?_;refine nl ?_
    exact⟨(j+9,9),by dsimp only;omega,⟨by dsimp only;omega,.inr ⟨by dsimp only;omega,rfl,by dsimp only;omega⟩⟩,aO h0 [2] _ _ (by decide) ⟨(congrArg (fun l:List Nat=>some (FV.one (tv (.string (aC l))))) (by rw[List.drop_drop])),(congrArg (fun z:Nat=>some (FV.one (.sl 2 0 (dg 4294967296 z).length))) hpc.symm),rfl,trivial⟩ ⟨cM (congrArg (fun z:Nat=>some (⟨115,1,(aR (dg 4294967296 z)).map .t⟩:Ob)) hpc),rfl⟩⟩
   refine sk ?_;refine sq ?_;refine rl ?_;refine o1 ?_;refine o1 ?_;refine o1 ?_ (hC:=(by rw[aF,List.length_drop];show f≤l.length-j;omega))
   refine WL.cast (t:=35) (u':=.string (aC ((l.drop j).take f))) rfl (congrArg Value.string ((iE _ 0 _).trans rfl)) ?_
   refine ca (zK (l:=((l.drop j).take f)) (sH hdg j f) (by rw[List.length_take,List.length_drop];omega) (by rw[List.length_take];omega)) Fb ⟨a1 rfl,rfl⟩ (.tup [.one (tv (.int .i64 ((bX ((l.drop j).take f):Nat):Int))),.one (tv .nilIface)]) ?_
   (iterate 5 refine o1 ?_);refine nl ?_;refine sq ?_;have hpl:=sJ hdg (j:=j) (f:=f) (by omega) (by omega)
   have hpc:=pX (l:=l) (j:=j) (f:=f) (by omega) (by omega)
   have hl1:=rA hdg hj
   have hl2:=lM (bX (l.take j)) 1000000000
   have hl3:(dg 4294967296 1000000000).length≤1:=bQ (by omega) (by decide)
   refine rl ?_;refine o1 ?_
   refine ca (yY (u:=bX (l.take j)) (m:=1000000000) (by omega) (by omega)) zL ⟨pA rfl (.sl rfl rfl (lI _) (aY _)),a1 rfl,rfl⟩ (.one (.t (sU false (dg 4294967296 (bX (l.take j)*1000000000))))) ?_
   refine o1 ?_;refine o1 ?_;refine WL.cast (t:=42) (u':=.int .u32 ((bX ((l.drop j).take f):Nat):Int)) rfl (aH (by omega)) ?_
   refine bs 1 ?_
   refine gG 2 (zA (u:=bX (l.take j)*1000000000) (x:=bX ((l.drop j).take f)) (by omega) (by omega)) vZ ⟨a1 rfl,pA rfl (.sl (trs:=aR [bX ((l.drop j).take f)]) rfl rfl rfl rfl),rfl⟩ ?_
   refine o1 ?_;refine nl ?_;refine rl ?_;refine o1 ?_;refine o1 ?_;refine o1 ?_ (hC:=(by rw[aF,List.length_drop];show f≤l.length-j;omega))
   refine WL.cast (t:=47) (u':=.string (aC ((l.drop j).drop f))) rfl (congrArg Value.string (iC _ _)) ?_;refine o1 ?_;refine nl ?_;refine rl ?_;refine o1 ?_;refine nl ?_
   exact⟨(j+f,9),by dsimp only;omega,⟨by dsimp only;omega,.inr ⟨by dsimp only;omega,rfl,by dsimp only;omega⟩⟩,aO h0 [2] _ _ (by decide) ⟨(congrArg (fun l:List Nat=>some (FV.one (tv (.string (aC l))))) (by rw[List.drop_drop])),(congrArg (fun z:Nat=>some (FV.one (.sl 2 0 (dg 4294967296 z).length))) hpc.symm),rfl,trivial⟩ ⟨cM (congrArg (fun z:Nat=>some (⟨115,1,(aR (dg 4294967296 z)).map .t⟩:Ob)) hpc),rfl⟩⟩
  refine ex ?_;refine sq ?_;refine rl ?_;(iterate 3 refine o1 ?_);refine nl ?_;refine rt ?_;have hjl:=Lx h7
  have he:=Wy hg (by omega)
  exact en (.inl rfl) rfl (dE (.cons (.one (.sl (trs:=aR (dg 4294967296 (bX (l.take j)))) rfl rfl (bG _) (aY _))) (.cons (aP _) .nil))) (by decide) (fun _=>⟨.inl ⟨rfl,eB _⟩,trivial,trivial⟩) (by rw[he,Oy he,List.take_of_length_le hjl];rfl)
 (iterate 3 refine cG ?_);refine o1 ?_;refine o1 ?_;refine nl ?_;refine fD rfl ?_;refine rl ?_;refine o1 ?_
 refine ca (Hb hn) Pj ⟨a1 rfl,a1 rfl,rfl⟩ (.one (tv (.string ⟨(Lib.trimS (aC l).data.toList [48,49,50,51,52,53,54,55,56,57]).toArray⟩))) ?_;refine o1 ?_
 refine WL.cast (t:=20) (u':=.bool (!tV l)) rfl (congrArg Value.bool (congrArg not (Lh hl))) ?_;refine o1 ?_;refine nl ?_;refine iW rfl (fun h9=>?_) (fun h9=>?_)
 ·refine sq ?_;refine rl ?_;refine o1 ?_;refine o1 ?_;refine nl ?_;refine rt ?_;have he:=Es (Ox (Ly h9))
  exact en (.inl rfl) rfl (dE (.cons (.one (.nil (t:=115) (z:=1))) (.cons (aP _) .nil))) (by decide) (fun _=>⟨.inl ⟨rfl,trivial⟩,trivial,trivial⟩) (by rw[he,wA (by rw[he];decide)];rfl)
 refine sq ?_;have hg:=yW h1 (.inl (Ta h2)) (Ta h9)
 have hdg:=Si hg
 refine rl ?_;refine o1 ?_;refine o1 ?_;refine WL.cast (t:=23) (u':=.int .i64 ((l.length:Nat):Int)) rfl (congrArg (fun n:Nat=>Value.int .i64 (n:Int)) (aF _)) ?_
 refine o1 ?_;refine o1 ?_;refine nl ?_;refine bN rfl (fun h10=>?_) (fun h10=>?_)
 ·refine sq ?_;refine rl ?_;refine o1 ?_;refine o1 ?_;refine nl ?_;refine rt ?_;have he:=IG hg (by omega)
  exact en (.inl rfl) rfl (dE (.cons (.one (.nil (t:=115) (z:=1))) (.cons (aP _) .nil))) (by decide) (fun _=>⟨.inl ⟨rfl,trivial⟩,trivial,trivial⟩) (by rw[he,wA (by rw[he];decide)];rfl)
 refine sk ?_;refine sq ?_;refine rl ?_;refine o1 ?_;refine nl ?_;refine sq ?_;refine sq ?_;refine rl ?_;refine o1 ?_;refine o1 ?_
 refine WL.cast (t:=26) (u':=.int .i64 ((l.length:Nat):Int)) rfl (congrArg (fun n:Nat=>Value.int .i64 (n:Int)) (aF _)) ?_
 refine o1 ?_;refine WL.cast (t:=27) (u':=.int .i64 ((l.length%9:Nat):Int)) rfl (aH (fF _ 9)) ?_;refine o1 ?_;refine nl ?_;refine bl ?_
 refine lp (γ:=Nat×Nat) (fun s=>cD [(0,.one (tv (.string (aC (l.drop s.1))))),(4,.one (.sl 0 0 ((dg 4294967296 (bX (l.take s.1))).length))),(5,.one (tv (.int .i64 ((s.2:Nat):Int))))]) (fun s=>[(⟨115,1,(aR (dg 4294967296 (bX (l.take s.1)))).map .t⟩:Ob)].map some) (fun s=>s.1≤l.length∧(s.1=0∧s.2=l.length%9∨0<s.1∧s.2=9∧(l.length-s.1)%9=0)) (fun s=>l.length-s.1) (0,l.length%9) ⟨Nat.zero_le _,.inl ⟨rfl,rfl⟩⟩ ((nr (i:=4) 0 115 1 rfl rfl rfl rfl).trans (aO h0 [0] _ _ (by decide) ⟨rfl,rfl,rfl,trivial⟩ ⟨cM (l:=[]) rfl,rfl⟩)) ?_
 rintro⟨j,f⟩ ⟨hj,hf⟩;dsimp only at hj hf⊢;refine sq ?_;refine sq ?_;refine rl ?_;refine o1 ?_;refine o1 ?_
 refine WL.cast (t:=29) (u':=.bool (!decide (l.drop j=[]))) rfl (congrArg Value.bool (congrArg not (iD (mJ hl j)))) ?_;refine nl ?_
 refine iW rfl (fun h11=>?_) (fun h11=>?_)
 ·refine sk ?_;refine sq ?_;refine bl ?_;refine sq ?_;refine sq ?_;have hjl:=Lw h11
  refine rl ?_;refine o1 ?_;refine o1 ?_;refine nl ?_;refine bN rfl (fun h12=>?_) (fun h12=>?_)
  ·refine rl ?_;refine o1 ?_;refine nl ?_;refine sq ?_;refine rl ?_;refine o1 ?_;refine o1 ?_;refine o1 ?_ (hC:=(by rw[aF,List.length_drop];show 9≤l.length-j;omega))
   refine WL.cast (t:=35) (u':=.string (aC ((l.drop j).take 9))) rfl (congrArg Value.string ((iE _ 0 _).trans rfl)) ?_
   refine ca (zK (l:=((l.drop j).take 9)) (sH hdg j 9) (by rw[List.length_take,List.length_drop];omega) (by rw[List.length_take];omega)) Fb ⟨a1 rfl,rfl⟩ (.tup [.one (tv (.int .i64 ((bX ((l.drop j).take 9):Nat):Int))),.one (tv .nilIface)]) ?_
   (iterate 5 refine o1 ?_);refine nl ?_;refine sq ?_;have hpl:=sJ hdg (j:=j) (f:=9) (by omega) (by omega)
   have hpc:=pX (l:=l) (j:=j) (f:=9) (by omega) (by omega)
   have hl1:=rA hdg hj
   have hl2:=lM (bX (l.take j)) 1000000000
   have hl3:(dg 4294967296 1000000000).length≤1:=bQ (by omega) (by decide)
   refine rl ?_;refine o1 ?_
   refine ca (yY (u:=bX (l.take j)) (m:=1000000000) (by omega) (by omega)) zL ⟨pA rfl (.sl rfl rfl (lI _) (aY _)),a1 rfl,rfl⟩ (.one (.t (sU false (dg 4294967296 (bX (l.take j)*1000000000))))) ?_
   refine o1 ?_;refine o1 ?_;refine WL.cast (t:=42) (u':=.int .u32 ((bX ((l.drop j).take 9):Nat):Int)) rfl (aH (by omega)) ?_
   refine bs 1 ?_
   refine gG 2 (zA (u:=bX (l.take j)*1000000000) (x:=bX ((l.drop j).take 9)) (by omega) (by omega)) vZ ⟨a1 rfl,pA rfl (.sl (trs:=aR [bX ((l.drop j).take 9)]) rfl rfl rfl rfl),rfl⟩ ?_
   refine o1 ?_;refine nl ?_;refine rl ?_;refine o1 ?_;refine o1 ?_;refine o1 ?_ (hC:=(by rw[aF,List.length_drop];show 9≤l.length-j;omega))
   refine WL.cast (t:=47) (u':=.string (aC ((l.drop j).drop 9))) rfl (congrArg Value.string (iC _ _)) ?_;refine o1 ?_;refine nl ?_;refine rl ?_;refine o1 ?_;refine nl ?_
   exact⟨(j+9,9),by dsimp only;omega,⟨by dsimp only;omega,.inr ⟨by dsimp only;omega,rfl,by dsimp only;omega⟩⟩,aO h0 [2] _ _ (by decide) ⟨(congrArg (fun l:List Nat=>some (FV.one (tv (.string (aC l))))) (by rw[List.drop_drop])),(congrArg (fun z:Nat=>some (FV.one (.sl 2 0 (dg 4294967296 z).length))) hpc.symm),rfl,trivial⟩ ⟨cM (congrArg (fun z:Nat=>some (⟨115,1,(aR (dg 4294967296 z)).map .t⟩:Ob)) hpc),rfl⟩⟩
  refine sk ?_;refine sq ?_;refine rl ?_;refine o1 ?_;refine o1 ?_;refine o1 ?_ (hC:=(by rw[aF,List.length_drop];show f≤l.length-j;omega))
  refine WL.cast (t:=35) (u':=.string (aC ((l.drop j).take f))) rfl (congrArg Value.string ((iE _ 0 _).trans rfl)) ?_
  refine ca (zK (l:=((l.drop j).take f)) (sH hdg j f) (by rw[List.length_take,List.length_drop];omega) (by rw[List.length_take];omega)) Fb ⟨a1 rfl,rfl⟩ (.tup [.one (tv (.int .i64 ((bX ((l.drop j).take f):Nat):Int))),.one (tv .nilIface)]) ?_
  (iterate 5 refine o1 ?_);refine nl ?_;refine sq ?_;have hpl:=sJ hdg (j:=j) (f:=f) (by omega) (by omega)
  have hpc:=pX (l:=l) (j:=j) (f:=f) (by omega) (by omega)
  have hl1:=rA hdg hj
  have hl2:=lM (bX (l.take j)) 1000000000
  have hl3:(dg 4294967296 1000000000).length≤1:=bQ (by omega) (by decide)
  refine rl ?_;refine o1 ?_
  refine ca (yY (u:=bX (l.take j)) (m:=1000000000) (by omega) (by omega)) zL ⟨pA rfl (.sl rfl rfl (lI _) (aY _)),a1 rfl,rfl⟩ (.one (.t (sU false (dg 4294967296 (bX (l.take j)*1000000000))))) ?_
  refine o1 ?_;refine o1 ?_;refine WL.cast (t:=42) (u':=.int .u32 ((bX ((l.drop j).take f):Nat):Int)) rfl (aH (by omega)) ?_
  refine bs 1 ?_
  refine gG 2 (zA (u:=bX (l.take j)*1000000000) (x:=bX ((l.drop j).take f)) (by omega) (by omega)) vZ ⟨a1 rfl,pA rfl (.sl (trs:=aR [bX ((l.drop j).take f)]) rfl rfl rfl rfl),rfl⟩ ?_
  refine o1 ?_;refine nl ?_;refine rl ?_;refine o1 ?_;refine o1 ?_;refine o1 ?_ (hC:=(by rw[aF,List.length_drop];show f≤l.length-j;omega))
  refine WL.cast (t:=47) (u':=.string (aC ((l.drop j).drop f))) rfl (congrArg Value.string (iC _ _)) ?_;refine o1 ?_;refine nl ?_;refine rl ?_;refine o1 ?_;refine nl ?_
  exact⟨(j+f,9),by dsimp only;omega,⟨by dsimp only;omega,.inr ⟨by dsimp only;omega,rfl,by dsimp only;omega⟩⟩,aO h0 [2] _ _ (by decide) ⟨(congrArg (fun l:List Nat=>some (FV.one (tv (.string (aC l))))) (by rw[List.drop_drop])),(congrArg (fun z:Nat=>some (FV.one (.sl 2 0 (dg 4294967296 z).length))) hpc.symm),rfl,trivial⟩ ⟨cM (congrArg (fun z:Nat=>some (⟨115,1,(aR (dg 4294967296 z)).map .t⟩:Ob)) hpc),rfl⟩⟩
 refine ex ?_;refine sq ?_;refine rl ?_;(iterate 3 refine o1 ?_);refine nl ?_;refine rt ?_;have hjl:=Lx h11
 have he:=Wy hg (by omega)
 exact en (.inl rfl) rfl (dE (.cons (.one (.sl (trs:=aR (dg 4294967296 (bX (l.take j)))) rfl rfl (bG _) (aY _))) (.cons (aP _) .nil))) (by decide) (fun _=>⟨.inl ⟨rfl,eB _⟩,trivial,trivial⟩) (by rw[he,Oy he,List.take_of_length_le hjl];rfl)
theorem rF {p:Rat}{L:Nat}(h:Sz L p) (hL:L≤68719476736:=by omega):Zg (.of p.num) p.num:=.of (Nat.le_trans h.1 (by omega))
theorem kK {p:Rat}{L:Nat}(h:Sz L p) (hL:L≤68719476736:=by omega):Zg ⟨false,dg 4294967296 p.den⟩ (p.den:Int):=⟨aN (by omega) _,Nat.le_trans h.2 (by omega),mK p.den⟩
theorem Fc {q:Rat}{n d:Int}(h1:q.num=n) (h2:(q.den:Int)=d):FV.agg [tv (.bool (aL n)),.t (sU true (dg 4294967296 n.natAbs)),tv (.bool (aL d)),.t (sU true (dg 4294967296 d.natAbs))]=qO q:=by
 subst h1 h2
 rw[wD]
 rfl
theorem uU {a b:Zi}{k k':Int}(ha:Zg a k) (hb:Zg b k') (hz0:k'≠0):aE true Tryz.prog 110 [] [gF a,gF b] (aM (qO (Rat.divInt k k'))):=by
 refine bD Tryz.func110 rfl Tryz.ntmps110 rfl aA rfl fun N w c0 h0=>?_
 have hkl:=ha.len
 have hkl':=hb.len
 have hgl:(dg 4294967296 ((Int.gcd k k':Nat):Int).natAbs).length≤300000000000:=Nat.le_trans (dG (Nat.le_of_dvd (by omega) (Nat.gcd_dvd_right ..))) hkl'
 have hng:=jA ((Int.gcd k k':Nat):Int)
 have hg0:((Int.gcd k k':Nat):Int)≠0:=fun e=>hz0 (Int.gcd_eq_zero_iff.1 (show Int.gcd k k'=0 by omega)).2
 refine sq ?_;refine rl ?_;refine bx 0 ?_;refine bx 1 ?_;refine al 2 ?_;refine nl ?_;refine sq ?_;refine rl ?_;refine ld ?_;refine ld ?_
 refine ca (BC ha hb) BD ⟨aB rfl,aB rfl,rfl⟩ (kF (((Int.gcd k k':Nat):Int))) ?_;refine al 3 ?_;refine st ?_;refine nl ?_;refine sq ?_;refine sq ?_;refine rl ?_;refine ld ?_
 refine ca (rG hb) Bt ⟨aB rfl,rfl⟩ (.one (tv (.int .i64 k'.sign))) ?_;refine o1 ?_;refine nl ?_;refine bN rfl (fun h1=>?_) (fun h1=>?_)
 ·refine rl ?_;refine ld ?_;refine ca (BE (Zg.of (k:=((Int.gcd k k':Nat):Int)) hgl)) JF ⟨aB rfl,rfl⟩ (kF (-(((Int.gcd k k':Nat):Int)))) ?_;refine st ?_;refine nl ?_;refine sq ?_
  refine rl ?_;refine ld ?_;refine ld ?_;refine gG 4 (oZ ha (Zg.of (k:=(-(((Int.gcd k k':Nat):Int)))) (by omega)) (by omega)) zM ⟨aB rfl,aB rfl,rfl⟩ ?_
  (iterate 4 refine o1 ?_);refine al 6 ?_;refine al 7 ?_;refine st ?_;refine st ?_;refine o1 ?_;refine nl ?_;refine sq ?_;refine rl ?_;refine ld ?_;refine ld ?_
  refine gG 8 (oZ hb (Zg.of (k:=(-(((Int.gcd k k':Nat):Int)))) (by omega)) (by omega)) zM ⟨aB rfl,aB rfl,rfl⟩ ?_
  (iterate 4 refine o1 ?_);refine al 10 ?_;refine al 11 ?_;refine st ?_;refine st ?_;refine o1 ?_;refine nl ?_;refine sq ?_;refine rl ?_;refine ld ?_;refine ld ?_;refine o1 ?_
  refine st ?_;refine nl ?_;refine rt ?_;have hk9:k'<0:=by
   rcases Int.lt_trichotomy k' 0 with h8 | h8 | h8
   ·exact h8
   ·exact absurd h8 hz0
   rw[Int.sign_eq_one_of_pos h8]at h1;omega
  have h9:=Hc (N:=k) (D:=k') hk9
  exact en (.inl rfl) rfl (aV (.agg (.cons (.id rfl) (.cons (.sl (trs:=aR (dg 4294967296 (((k).fdiv (-(((Int.gcd k k':Nat):Int))))).natAbs)) rfl rfl (bG _) (aY _)) (.cons (.id rfl) (.cons (.sl (trs:=aR (dg 4294967296 (((k').fdiv (-(((Int.gcd k k':Nat):Int))))).natAbs)) rfl rfl (bG _) (aY _)) (.nil))))))) (by decide) (fun _=>zN (⟨aL ((k).fdiv (-(((Int.gcd k k':Nat):Int)))),dg 4294967296 (((k).fdiv (-(((Int.gcd k k':Nat):Int))))).natAbs,aL ((k').fdiv (-(((Int.gcd k k':Nat):Int)))),dg 4294967296 (((k').fdiv (-(((Int.gcd k k':Nat):Int))))).natAbs⟩:Fr4)) (Fc h9.1 h9.2)
 refine sk ?_;refine sq ?_;refine rl ?_;refine ld ?_;refine ld ?_;refine gG 4 (oZ ha (Zg.of (k:=((Int.gcd k k':Nat):Int)) (by omega)) (by omega)) zM ⟨aB rfl,aB rfl,rfl⟩ ?_
 (iterate 4 refine o1 ?_);refine al 6 ?_;refine al 7 ?_;refine st ?_;refine st ?_;refine o1 ?_;refine nl ?_;refine sq ?_;refine rl ?_;refine ld ?_;refine ld ?_
 refine gG 8 (oZ hb (Zg.of (k:=((Int.gcd k k':Nat):Int)) (by omega)) (by omega)) zM ⟨aB rfl,aB rfl,rfl⟩ ?_
 (iterate 4 refine o1 ?_);refine al 10 ?_;refine al 11 ?_;refine st ?_;refine st ?_;refine o1 ?_;refine nl ?_;refine sq ?_;refine rl ?_;refine ld ?_;refine ld ?_;refine o1 ?_
 refine st ?_;refine nl ?_;refine rt ?_;have hk9:0<k':=by
  rcases Int.lt_trichotomy k' 0 with h8 | h8 | h8
  ·rw[Int.sign_eq_neg_one_of_neg h8]at h1;omega
  ·exact absurd h8 hz0
  exact h8
 have h9:=mL (N:=k) (D:=k') hk9
 exact en (.inl rfl) rfl (aV (.agg (.cons (.id rfl) (.cons (.sl (trs:=aR (dg 4294967296 (((k).fdiv ((Int.gcd k k':Nat):Int))).natAbs)) rfl rfl (bG _) (aY _)) (.cons (.id rfl) (.cons (.sl (trs:=aR (dg 4294967296 (((k').fdiv ((Int.gcd k k':Nat):Int))).natAbs)) rfl rfl (bG _) (aY _)) (.nil))))))) (by decide) (fun _=>zN (⟨aL ((k).fdiv ((Int.gcd k k':Nat):Int)),dg 4294967296 (((k).fdiv ((Int.gcd k k':Nat):Int))).natAbs,aL ((k').fdiv ((Int.gcd k k':Nat):Int)),dg 4294967296 (((k').fdiv ((Int.gcd k k':Nat):Int))).natAbs⟩:Fr4)) (Fc h9.1 h9.2)
theorem Pl {p q:Rat}(hp:Sz 68719476736 p) (hq:Sz 68719476736 q):aE true Tryz.prog 66 [] [qF (.of p),qF (.of q)] (aM (qO (p+q))):=by
 refine bD Tryz.func66 rfl Tryz.ntmps66 rfl aA rfl fun N w c0 h0=>?_
 have z1:=(rF hp).len;have z2:=(rF hq).len;have z3:=(kK hp).len;have z4:=(kK hq).len
 have y1:(dg 4294967296 p.num.natAbs).length≤68719476736:=hp.1;have y2:(dg 4294967296 q.num.natAbs).length≤68719476736:=hq.1;have y3:(dg 4294967296 p.den).length≤68719476736:=hp.2;have y4:(dg 4294967296 q.den).length≤68719476736:=hq.2;have y5:(dg 4294967296 (p.den:Int).natAbs).length≤68719476736:=hp.2;have y6:(dg 4294967296 (q.den:Int).natAbs).length≤68719476736:=hq.2
 refine sq ?_;refine rl ?_;refine bx 0 ?_;refine bx 1 ?_;refine al 2 ?_;refine nl ?_;refine sq ?_;refine sq ?_;refine rl ?_;refine o1 ?_;refine ld ?_;refine o1 ?_;refine ld ?_
 refine ca (Fd (kK hp) (kK hq) (by have h8:=fG (p.den:Int) (-(q.den:Int));have h7:=jA (q.den:Int);rw[Int.natAbs_natCast]at h7 h8;rw[Int.sub_eq_add_neg];omega)) xR ⟨aB rfl,aB rfl,rfl⟩ (.one (tv (.int .i64 ((p.den:Int)-(q.den:Int)).sign))) ?_
 refine o1 ?_;refine nl ?_;refine bN rfl (fun h1=>?_) (fun h1=>?_)
 ·refine sq ?_;refine rd [0,1,2] (fun i=>[8].contains i) mixed ?_
  refine dv 0 ?_;refine aU 1 ?_;refine dv 2 ?_;refine aU 3 ?_;refine dv 5 ?_;refine aU 6 ?_;have hn2:=fG (p.num) (q.num)
  refine aG 4 rfl (Fe (rF hp) (rF hq)) Ff ⟨aB rfl,aB rfl,rfl⟩ (kF (p.num+q.num)) ?_
  refine mF 3 7 rfl (uU (Zg.of (k:=(p.num+q.num)) (by omega)) (kK hp) (by have h8:=p.den_nz;have h7:=q.den_nz;first | omega | exact Int.mul_ne_zero (by omega) (by omega))) Fg ⟨aB rfl,aB rfl,rfl⟩ ?_
  refine dst 8 ?_;refine aS ?_;refine rt ?_
  exact en (.inl rfl) rfl (aV (.agg (.cons (.id rfl) (.cons (.sl (trs:=aR (dg 4294967296 (Rat.divInt ((p.num+q.num)) ((p.den:Int))).num.natAbs)) rfl rfl (bG _) (aY _)) (.cons (.id rfl) (.cons (.sl (trs:=aR (dg 4294967296 (Rat.divInt ((p.num+q.num)) ((p.den:Int))).den)) rfl rfl (bG _) (aY _)) .nil)))))) (by decide) (fun _=>uV (Rat.divInt ((p.num+q.num)) ((p.den:Int)))) (by rw[show(Rat.divInt ((p.num+q.num)) ((p.den:Int)))=p+q from Xn (by have h8:=Int.sign_eq_zero_iff_zero.1 h1;omega)];rfl)
 refine sk ?_;refine sq ?_;refine rd [0,1,2] (fun i=>[17].contains i) mixed ?_
 refine dv 0 ?_;refine aU 1 ?_;refine dv 2 ?_;refine aU 3 ?_;refine dv 5 ?_;refine aU 6 ?_;refine dv 7 ?_;refine aU 8 ?_;refine dv 11 ?_;refine aU 12 ?_;refine dv 13 ?_
 refine aU 14 ?_;have hn3:=cO (p.num) ((q.den:Int))
 refine aG 4 rfl (Fh (rF hp) (kK hq)) sV ⟨aB rfl,aB rfl,rfl⟩ (kF (p.num*(q.den:Int))) ?_;have hn4:=cO (q.num) ((p.den:Int))
 refine aG 9 rfl (Fh (rF hq) (kK hp)) sV ⟨aB rfl,aB rfl,rfl⟩ (kF (q.num*(p.den:Int))) ?_;have hn5:=fG ((p.num*(q.den:Int))) ((q.num*(p.den:Int)))
 refine aG 10 rfl (Fe (Zg.of (k:=(p.num*(q.den:Int))) (by omega)) (Zg.of (k:=(q.num*(p.den:Int))) (by omega))) Ff ⟨aB rfl,aB rfl,rfl⟩ (kF ((p.num*(q.den:Int))+(q.num*(p.den:Int)))) ?_
 have hn6:=cO ((p.den:Int)) ((q.den:Int))
 refine aG 15 rfl (Fh (kK hp) (kK hq)) sV ⟨aB rfl,aB rfl,rfl⟩ (kF ((p.den:Int)*(q.den:Int))) ?_
 refine mF 3 16 rfl (uU (Zg.of (k:=((p.num*(q.den:Int))+(q.num*(p.den:Int)))) (by omega)) (Zg.of (k:=((p.den:Int)*(q.den:Int))) (by omega)) (by have h8:=p.den_nz;have h7:=q.den_nz;first | omega | exact Int.mul_ne_zero (by omega) (by omega))) Fg ⟨aB rfl,aB rfl,rfl⟩ ?_
 refine dst 17 ?_;refine aS ?_;refine rt ?_
 exact en (.inl rfl) rfl (aV (.agg (.cons (.id rfl) (.cons (.sl (trs:=aR (dg 4294967296 (Rat.divInt (((p.num*(q.den:Int))+(q.num*(p.den:Int)))) (((p.den:Int)*(q.den:Int)))).num.natAbs)) rfl rfl (bG _) (aY _)) (.cons (.id rfl) (.cons (.sl (trs:=aR (dg 4294967296 (Rat.divInt (((p.num*(q.den:Int))+(q.num*(p.den:Int)))) (((p.den:Int)*(q.den:Int)))).den)) rfl rfl (bG _) (aY _)) .nil)))))) (by decide) (fun _=>uV (Rat.divInt (((p.num*(q.den:Int))+(q.num*(p.den:Int)))) (((p.den:Int)*(q.den:Int))))) (by rw[show(Rat.divInt (((p.num*(q.den:Int))+(q.num*(p.den:Int)))) (((p.den:Int)*(q.den:Int))))=p+q from pZ p q];rfl)
theorem Tb {k:Int}{f:FuncId}{args:List FV}(h:∀(N:Nat→Prop) (w:World) us,cU w N [] args us→(∀b,N b→b<w.heap.size)→Calls Tryz.prog f us.toArray w (JG k w)):aE true Tryz.prog f [] args (aM (kO k)):=by
 intro N w cs us hL
 obtain⟨rfl,hf⟩:=pC hL
 refine(h _ w us hf (fun b hb=>hb.1)).mono ?_
 rintro e W ⟨A,n,c,rfl,ho,hb⟩
 obtain⟨y1,a1,a2,a3,a4⟩:=rH (N:=fun b=>true=false∧(b<W.heap.size∧b∉VT.fpL [])∧(N b∨w.heap.size≤b)) ho
 refine .mk0 (y:=[.w (.bool (aL k)),y1]) rfl hb (by simp only[VT.okL,VT.ok];exact⟨trivial,a3,trivial⟩) ?_ (fun b hb'=>?_) ?_
 ·simp only[VT.fpL,VT.fp,a4,List.nil_append,List.append_nil]
  exact uW A n c
 ·simp only[VT.fpL,VT.fp,a4,List.nil_append,List.append_nil]at hb'
  exact ho.blk b hb'
 refine⟨by simp only[List.map_cons,List.map_nil,a1];rfl,?_⟩
 simp only[List.map_cons,List.map_nil,bM,CR,sU]
 exact⟨by simp[OR],iT (fun _ _=>rfl) (fun b hb=>absurd hb.1 (by simp)) _ _ a2,trivial⟩
theorem xS {n:Int}(h1:-9223372036854775808≤n) (h2:n≤9223372036854775807):aE true Tryz.prog 62 [] [.one (tv (.int .i64 n))] (aM (kO n)):=Tb fun N w us hf hN=>by
 obtain⟨u,rfl,h3⟩:=Pm hf
 obtain rfl:=aW (eD h3)
 exact JH n w h1 h2
theorem EL {m:Nat}:decide (((m:Int)-1).sign=0)=(m==1):=by
 rw[decide_eq_decide.2 Int.sign_eq_zero_iff_zero]
 rw[Bool.eq_iff_iff,decide_eq_true_eq,beq_iff_eq]
 omega
theorem Hd {z:Int}:0<z.sign↔0<z:=by
 rcases Int.lt_trichotomy z 0 with h | h | h
 ·rw[Int.sign_eq_neg_one_of_neg h];omega
 ·subst h;decide
 rw[Int.sign_eq_one_of_pos h];omega
theorem zO:aE true Tryz.prog 63 [] [] (aM (kO 1)):=by
 refine bD Tryz.func63 rfl Tryz.ntmps63 rfl aA rfl fun N w c0 h0=>?_
 refine sq ?_;refine rl ?_;refine al 0 ?_;refine nl ?_;refine sq ?_;refine rl ?_;refine gG 1 (xS (n:=1) (by omega) (by omega)) xT ⟨a1 rfl,rfl⟩ ?_
 refine st ?_;refine nl ?_;refine rt ?_
 exact en (.inl rfl) rfl (aV (.agg (.cons (.id rfl) (.cons (.sl (trs:=aR (dg 4294967296 ((1:Int)).natAbs)) rfl rfl (bG _) (aY _)) .nil)))) (by decide) (fun _=>dZ 1) rfl
theorem Hf {a:Fr4}{p:Rat}(ha:Qn a p):aE true Tryz.prog 109 [] [qF a] (aM (.one (tv (.bool (dC a.s a.x a.t a.y))))):=by
 refine bD Tryz.func109 rfl Tryz.ntmps109 rfl aA rfl fun N w c0 h0=>?_
 refine sq ?_;refine rl ?_;refine bx 0 ?_;refine o1 ?_;refine nl ?_;refine sq ?_;refine rl ?_;refine o1 ?_;refine ld ?_
 refine ca (Bu (a:=⟨a.s,a.x⟩) ((Gg ha).g)) Pn ⟨aB rfl,rfl⟩ (.one (tv (.bool (cQ a.s a.x)))) ?_;refine o1 ?_;refine WL.splitb (t:=6) rfl (fun h1=>?_) (fun h1=>?_)
 ·refine o1 ?_;refine ld ?_;refine ca (Bu (a:=⟨a.t,a.y⟩) ((sK ha).g)) Pn ⟨aB rfl,rfl⟩ (.one (tv (.bool (cQ a.t a.y)))) ?_;refine o1 ?_;refine o1 ?_
  refine WL.splitb (t:=11) rfl (fun h2=>?_) (fun h2=>?_)
  ·refine o1 ?_;refine ld ?_;refine ca (rG (a:=⟨a.t,a.y⟩) ((sK ha).g)) Bt ⟨aB rfl,rfl⟩ (.one (tv (.int .i64 (dD a.t a.y).sign))) ?_;(iterate 3 refine o1 ?_)
   refine WL.split (t:=17) rfl (fun h3=>?_) (fun h3=>?_)
   ·refine o1 ?_;refine ld ?_;refine o1 ?_;refine ld ?_;have hpos:0<dD a.t a.y:=Hd.1 h3
    have hyl:(dg 4294967296 (dD a.t a.y).natAbs).length≤137438953472:=Zn.len (sK (p:=p) ha)
    have hgl9:(dg 4294967296 ((Int.gcd (dD a.s a.x) (dD a.t a.y):Nat):Int).natAbs).length≤137438953472:=Nat.le_trans (dG (Nat.le_of_dvd (by omega) (Nat.gcd_dvd_right ..))) hyl
    have hgl:(dg 4294967296 ((Int.gcd (dD a.s a.x) (dD a.t a.y):Nat):Int).natAbs).length≤300000000000:=Nat.le_trans hgl9 (by omega)
    refine ca (BC (a:=⟨a.s,a.x⟩) (b:=⟨a.t,a.y⟩) ((Gg ha).g) ((sK ha).g)) BD ⟨aB rfl,aB rfl,rfl⟩ (kF ((Int.gcd (dD a.s a.x) (dD a.t a.y):Nat):Int)) ?_
    refine ca (zO) Po rfl (kF 1) ?_
    refine ca (Fd (Zg.of (k:=((Int.gcd (dD a.s a.x) (dD a.t a.y):Nat):Int)) hgl) (Zg.of (k:=1) (by decide)) (by have h8:=xU ((Int.gcd (dD a.s a.x) (dD a.t a.y):Nat):Int) 1;have h7:(dg 4294967296 (1:Int).natAbs).length=1:=rfl;omega)) xR ⟨aB rfl,aB rfl,rfl⟩ (.one (tv (.int .i64 (((Int.gcd (dD a.s a.x) (dD a.t a.y):Nat):Int)-1).sign))) ?_
    (iterate 3 refine o1 ?_);refine nl ?_;refine rt ?_
    exact en (.inl rfl) rfl (aV (aP _)) (by decide) (fun _=>trivial) (congrArg (fun b=>FV.one (tv (.bool b))) (by unfold dC;rw[h1,h2,decide_eq_true hpos,←EL];rfl))
   (iterate 8 refine cG ?_);refine o1 ?_;refine o1 ?_;refine nl ?_;refine rt ?_
   exact en (.inl rfl) rfl (aV (aP _)) (by decide) (fun _=>trivial) (congrArg (fun b=>FV.one (tv (.bool b))) (by unfold dC;rw[h1,h2,decide_eq_false (fun h9=>h3 (Hd.2 h9))];rfl))
  (iterate 4 refine cG ?_);refine o1 ?_;refine o1 ?_;(iterate 8 refine cG ?_);refine o1 ?_;refine o1 ?_;refine nl ?_;refine rt ?_
  exact en (.inl rfl) rfl (aV (aP _)) (by decide) (fun _=>trivial) (congrArg (fun b=>FV.one (tv (.bool b))) (by unfold dC;rw[h1,h2];rfl))
 (iterate 3 refine cG ?_);refine o1 ?_;refine o1 ?_;(iterate 4 refine cG ?_);refine o1 ?_;refine o1 ?_;(iterate 8 refine cG ?_);refine o1 ?_;refine o1 ?_;refine nl ?_;refine rt ?_
 exact en (.inl rfl) rfl (aV (aP _)) (by decide) (fun _=>trivial) (congrArg (fun b=>FV.one (tv (.bool b))) (by unfold dC;rw[h1];rfl))
theorem SI:FV.agg [tv (.bool false),.t (sU false []),tv (.bool (aL 1)),.t (sU false (dg 4294967296 (1:Int).natAbs))]=qF (.of 0):=rfl
theorem mR {a:Fr4}{p:Rat}(ha:Qn a p):aE false Tryz.prog 60 [] [qF a] (aM (qF (.of p))):=by
 refine bD Tryz.func60 rfl Tryz.ntmps60 rfl aA rfl fun N w c0 h0=>?_
 refine sq ?_;refine rl ?_;refine bx 0 ?_;refine al 1 ?_;refine nl ?_;refine sq ?_;refine sq ?_;refine rl ?_;refine ld ?_
 refine ca (Hf ha) Pp ⟨aB rfl,rfl⟩ (.one (tv (.bool (dC a.s a.x a.t a.y)))) ?_;refine WL.splitb (t:=4) rfl (fun h1=>?_) (fun h1=>?_)
 ·refine o1 ?_;refine nl ?_;refine fD rfl ?_;refine sk ?_;refine sq ?_;refine rl ?_;refine ld ?_;refine st ?_;refine nl ?_;refine rt ?_
  exact en (.inl rfl) rfl (aV (.agg (.cons (.id rfl) (.cons (.id rfl) (.cons (.id rfl) (.cons (.id rfl) .nil)))))) (by decide) (fun h=>by cases h) (by rw[ha.right h1];rfl)
 refine o1 ?_;refine nl ?_;refine fV rfl ?_;refine sq ?_;refine rl ?_;refine o1 ?_;refine ca (zO) Po rfl (kF 1) ?_;refine o1 ?_;refine st ?_;refine nl ?_;refine rt ?_
 have hq9:=ha.wrong h1
 subst hq9;exact en (.inl rfl) rfl (aV (.agg (.cons (.id rfl) (.cons .nilf (.cons (.id rfl) (.cons (.id rfl) .nil)))))) (by decide) (fun h=>by cases h) SI
theorem JI {a b:Fr4}{p q:Rat}(ha:Qn a p) (hb:Qn b q):aE true Tryz.prog 28 [] [qF a,qF b] (aM (qO (p+q))):=by
 refine bD Tryz.func28 rfl Tryz.ntmps28 rfl aA rfl fun N w c0 h0=>?_
 refine sq ?_;refine rl ?_;refine bx 0 ?_;refine bx 1 ?_;refine al 2 ?_;refine nl ?_;refine sq ?_;refine rd [0,1,2] (fun i=>[5].contains i) mixed ?_
 refine aU 0 ?_;refine aU 2 ?_;refine aG 1 rfl (mR ha) eL ⟨aB rfl,rfl⟩ (qF (.of p)) ?_;refine aG 3 rfl (mR hb) eL ⟨aB rfl,rfl⟩ (qF (.of q)) ?_
 refine mF 3 4 rfl (Pl ha.sz hb.sz) Hg ⟨aB rfl,aB rfl,rfl⟩ ?_;refine dst 5 ?_;refine aS ?_;refine rt ?_
 exact en (.inl rfl) rfl (aV (.agg (.cons (.id rfl) (.cons (.sl (trs:=aR (dg 4294967296 (p+q).num.natAbs)) rfl rfl (bG _) (aY _)) (.cons (.id rfl) (.cons (.sl (trs:=aR (dg 4294967296 (p+q).den)) rfl rfl (bG _) (aY _)) .nil)))))) (by decide) (fun _=>uV (p+q)) rfl
theorem EM {a:Fr4}{p:Rat}(ha:Qn a p):aE true Tryz.prog 29 [] [qF a] (aM (.one (tv (.int .i64 p.num.sign)))):=by
 refine bD Tryz.func29 rfl Tryz.ntmps29 rfl aA rfl fun N w c0 h0=>?_
 refine sq ?_;refine rl ?_;refine bx 0 ?_;refine o1 ?_;refine nl ?_;refine sq ?_;refine rl ?_;refine ld ?_;refine ca (mR ha) eL ⟨aB rfl,rfl⟩ (qF (.of p)) ?_;refine o1 ?_
 refine ca (rG (Zg.of (k:=p.num) (Nat.le_trans ha.sz.1 (by omega)))) Bt ⟨aB rfl,rfl⟩ (.one (tv (.int .i64 p.num.sign))) ?_
 refine o1 ?_;refine nl ?_;refine rt ?_;exact en (.inl rfl) rfl (aV (aP _)) (by decide) (fun _=>trivial) rfl
theorem Tc {a:Fr4}{p:Rat}(ha:Qn a p):aE true Tryz.prog 26 [] [qF a] (aM (qO (-p))):=by
 refine bD Tryz.func26 rfl Tryz.ntmps26 rfl aA rfl fun N w c0 h0=>?_
 refine sq ?_;refine rl ?_;refine bx 0 ?_;refine al 1 ?_;refine nl ?_;refine sq ?_;refine rl ?_;refine ld ?_;refine ca (mR ha) eL ⟨aB rfl,rfl⟩ (qF (.of p)) ?_;refine st ?_
 refine nl ?_;refine sq ?_;refine rd [0,1] (fun i=>[7].contains i) mixed ?_
 refine dv 0 ?_;refine aU 1 ?_;refine dv 3 ?_;refine aU 4 ?_;refine mF 2 2 rfl (BE (Zg.of (k:=p.num) (Nat.le_trans ha.sz.1 (by omega)))) JF ⟨aB rfl,rfl⟩ ?_
 refine mF 3 5 rfl (PD (kK ha.sz)) SY ⟨aB rfl,rfl⟩ ?_;refine df 6 ?_;refine dst 7 ?_;refine aS ?_;refine rt ?_;have hda:(((p.den:Int).natAbs:Nat):Int).natAbs=p.den:=rfl
 exact en (.inl rfl) rfl (aV (.agg (.cons (.id rfl) (.cons (.sl (trs:=aR (dg 4294967296 (-(p.num)).natAbs)) rfl rfl (bG _) (aY _)) (.cons (.id rfl) (.cons (.sl (trs:=aR (dg 4294967296 (((p.den:Int).natAbs:Nat):Int).natAbs)) rfl rfl (bG _) (aY _)) .nil)))))) (by decide) (fun _=>zN (⟨_,dg 4294967296 (-(p.num)).natAbs,_,dg 4294967296 (((p.den:Int).natAbs:Nat):Int).natAbs⟩:Fr4)) (show FV.agg [tv (.bool (aL (-(p.num)))),.t (sU true (dg 4294967296 (-(p.num)).natAbs)),tv (.bool (aL (((p.den:Int).natAbs:Nat):Int))),.t (sU true (dg 4294967296 (((p.den:Int).natAbs:Nat):Int).natAbs))]=qO (-p) from Fc (q:=-p) (by simp) (by simp))
theorem Xo {n:Int}(h1:-9223372036854775808≤n) (h2:n≤9223372036854775807):aE true Tryz.prog 22 [] [.one (tv (.int .i64 n))] (aM (qO ((n:Int):Rat))):=by
 refine bD Tryz.func22 rfl Tryz.ntmps22 rfl aA rfl fun N w c0 h0=>?_
 refine sq ?_;refine rl ?_;refine al 0 ?_;refine nl ?_;refine sq ?_;refine rl ?_;refine o1 ?_;refine gG 1 (xS (n:=n) h1 h2) xT ⟨a1 rfl,rfl⟩ ?_;refine gG 2 (zO) Po rfl ?_
 refine o1 ?_;refine st ?_;refine nl ?_;refine rt ?_
 exact en (.inl rfl) rfl (aV (.agg (.cons (.id rfl) (.cons (.sl (trs:=aR (dg 4294967296 n.natAbs)) rfl rfl (bG _) (aY _)) (.cons (.id rfl) (.cons (.sl (trs:=aR (dg 4294967296 (1:Int).natAbs)) rfl rfl (bG _) (aY _)) .nil)))))) (by decide) (fun _=>zN (⟨_,dg 4294967296 n.natAbs,_,dg 4294967296 (1:Int).natAbs⟩:Fr4)) (Fc (q:=((n:Int):Rat)) (n:=n) (d:=1) (by simp) (by simp))
theorem JJ {a b:Fr4}{p q:Rat}(ha:Qn a p) (hb:Qn b q):aE true Tryz.prog 24 [] [qF a,qF b] (aM (qO (p-q))):=by
 refine bD Tryz.func24 rfl Tryz.ntmps24 rfl aA rfl fun N w c0 h0=>?_
 refine sq ?_;refine rl ?_;refine bx 0 ?_;refine bx 1 ?_;refine al 2 ?_;refine nl ?_;refine sq ?_;refine rd [0,1,2] (fun i=>[5].contains i) mixed ?_
 refine aU 0 ?_;refine aU 2 ?_;refine aG 1 rfl (mR ha) eL ⟨aB rfl,rfl⟩ (qF (.of p)) ?_;refine aG 3 rfl (Tc hb) JK ⟨aB rfl,rfl⟩ (qF (.of (-q))) ?_
 refine mF 3 4 rfl (Pl ha.sz (pD hb.sz)) Hg ⟨aB rfl,aB rfl,rfl⟩ ?_;refine dst 5 ?_;refine aS ?_;refine rt ?_
 exact en (.inl rfl) rfl (aV (.agg (.cons (.id rfl) (.cons (.sl (trs:=aR (dg 4294967296 (p+-q).num.natAbs)) rfl rfl (bG _) (aY _)) (.cons (.id rfl) (.cons (.sl (trs:=aR (dg 4294967296 (p+-q).den)) rfl rfl (bG _) (aY _)) .nil)))))) (by decide) (fun _=>uV (p+-q)) (by rw[Rat.sub_eq_add_neg];rfl)
theorem JL {k:Int}(h:aL k=true):k<0:=of_decide_eq_true h
theorem JM {k:Int}(h:aL k=false):¬k<0:=of_decide_eq_false h
def Nn (xs:List Nat) (u:Nat):Prop:=Lim 4294967296 xs∧xs.length≤1000000∧vl 4294967296 xs=u
theorem Nn.of {u:Nat}(h:(dg 4294967296 u).length≤1000000):Nn (dg 4294967296 u) u:=⟨aN (by omega) _,h,bO (by omega) _⟩
theorem Nn.eqT {xs:List Nat}{u:Nat}(h:Nn xs u):dg 4294967296 u=trim xs:=by rw[←h.2.2,dU (by omega) h.1]
theorem Nn.len {xs:List Nat}{u L:Nat}(h:Nn xs u) (hL:xs.length≤L):(dg 4294967296 u).length≤L:=by rw[h.eqT];exact Nat.le_trans (bZ _) hL
section
variable {xs ys:List Nat}{u v w q r:Nat}
abbrev nF (xs:List Nat):FV:=.one (.t (sU false xs))
abbrev nO (u:Nat):FV:=.one (.t (sU true (dg 4294967296 u)))
theorem PE (hx:Nn xs u) (hy:Nn ys v) (e:u*v=w):aE true Tryz.prog 119 [] [nF xs,nF ys] (aM (nO w)):=by
 obtain⟨a,b,rfl⟩:=hx
 obtain⟨c,d,rfl⟩:=hy
 exact e▸BF a c (by omega) (by omega)
theorem Pq {m:Nat}(hx:Nn xs u) (hm:m<4294967296) (e:u*m=w):aE true Tryz.prog 166 [] [nF xs,.one (tv (.int .u32 (m:Int)))] (aM (nO w)):=by
 obtain⟨a,b,rfl⟩:=hx
 exact e▸yZ a (by omega) hm
end
def kG (l:List (List Nat)) (k:Nat):List Nat:=l.getD k []
theorem pE {l:List (List Nat)}{k:Nat}(h:k<l.length):kG l k∈l:=by
 unfold kG
 rw[List.getD_eq_getElem?_getD,List.getElem?_eq_getElem h]
 exact List.getElem_mem h
def val (xs:List Nat):Nat:=vl 4294967296 xs
def RL (M:Nat) (l:List (List Nat)):Prop:=∀xs∈l,Lim 4294967296 xs∧xs.length≤M
theorem RL.nn {M k:Nat}{l:List (List Nat)}(h:RL M l) (hM:M≤1000000) (hk:k<l.length):Nn (kG l k) (val (kG l k)):=⟨(h _ (pE hk)).1,Nat.le_trans (h _ (pE hk)).2 hM,rfl⟩
theorem RL.len {M k:Nat}{l:List (List Nat)}(h:RL M l) (hk:k<l.length):(dg 4294967296 (val (kG l k))).length≤M:=by
 unfold val
 rw[dU (by omega) (h _ (pE hk)).1]
 exact Nat.le_trans (bZ _) (h _ (pE hk)).2
def uX (n:Int):Int:=if n<0 then 2 else if 4096<n then 3 else 0
def zP (x:Nat) (n:Int):Nat:=if uX n=0 then x^n.toNat else 0
theorem Lz {x m:Nat}(h:x<4294967296):(dg 4294967296 (x^m)).length≤m+1:=by
 refine bQ (by omega) (Nat.lt_of_le_of_lt (Nat.pow_le_pow_left (Nat.le_of_lt h) m) ?_)
 exact Nat.pow_lt_pow_right (by omega) (by omega)
theorem Td {j:Nat}(h:j≤12):4096/2^j=2^(12-j):=by
 rw[show(4096:Nat)=2^12 from rfl,Nat.pow_div h (by omega)]
theorem Xp (n i:Nat):n&&& 2^i=n/2^i%2*2^i:=by
 apply Nat.eq_of_testBit_eq
 intro k
 rw[Nat.testBit_and,Nat.testBit_two_pow]
 rcases Nat.mod_two_eq_zero_or_one (n/2^i)with h | h
 ·rw[h,Nat.zero_mul,Nat.zero_testBit]
  by_cases hk:i=k
  ·subst hk
   rw[Nat.testBit_eq_decide_div_mod_eq,h]
   rfl
  rw[decide_eq_false hk,Bool.and_false]
 rw[h,Nat.one_mul,Nat.testBit_two_pow]
 by_cases hk:i=k
 ·subst hk
  rw[Nat.testBit_eq_decide_div_mod_eq,h]
  rfl
 rw[decide_eq_false hk,Bool.and_false]
theorem Ma {n j:Nat}(h:j≤12):n&&&(4096/2^j)=n/2^(12-j)%2*2^(12-j):=by
 rw[Td h,Xp]
theorem EN {a b:Nat}(ha:a<9223372036854775808) (hb:b<9223372036854775808):IntKind.i64.wrap ((BitVec.ofInt IntKind.i64.bits (a:Int)&&& BitVec.ofInt IntKind.i64.bits (b:Int)).toNat:Int)=((a&&& b:Nat):Int):=by
 have e:IntKind.i64.bits=64:=rfl
 rw[e,BitVec.toNat_and,BitVec.ofInt_natCast,BitVec.ofInt_natCast,BitVec.toNat_ofNat,BitVec.toNat_ofNat,Nat.mod_eq_of_lt (by omega),Nat.mod_eq_of_lt (by omega)]
 have h1:a&&& b≤a:=Nat.and_le_left
 simp[IntKind.wrap,IntKind.signed,IntKind.bits]
 omega
theorem Hh {j:Nat}:Int.fdiv ((4096/2^j:Nat):Int) (2^(min (1:Int).toNat IntKind.i64.bits))=((4096/2^(j+1):Nat):Int):=by
 have e:(2:Int)^(min (1:Int).toNat IntKind.i64.bits)=((2:Nat):Int):=by decide
 rw[e,Int.fdiv_eq_ediv,if_pos (Or.inl (by omega)),Int.sub_zero,←Int.natCast_ediv,Nat.div_div_eq_div_mul,←Nat.pow_succ]
theorem Mb {n j:Nat}(h:j≤12):n/2^(12-j)=2*(n/2^(13-j))+n/2^(12-j)%2:=by
 have e:2^(13-j)=2^(12-j)*2:=by rw[show 13-j=(12-j)+1 by omega,Nat.pow_succ]
 rw[e,←Nat.div_div_eq_div_mul]
 omega
theorem PF {x n j:Nat}(h:j≤12) (hb:n&&&(4096/2^j)=0):x^(n/2^(13-j))*x^(n/2^(13-j))=x^(n/2^(12-j)):=by
 rw[Ma h]at hb
 have h1:n/2^(12-j)%2=0:=by
  rcases Nat.mul_eq_zero.1 hb with h2 | h2
  ·exact h2
  have:=Nat.pow_pos (n:=12-j) (show 0<2 by omega);omega
 rw[←Nat.pow_add,Mb h,h1]
 congr 1
 omega
theorem PG {x n j:Nat}(h:j≤12) (hb:n&&&(4096/2^j)≠0):x^(n/2^(13-j))*x^(n/2^(13-j))*x=x^(n/2^(12-j)):=by
 rw[Ma h]at hb
 have h1:n/2^(12-j)%2=1:=by
  rcases Nat.mod_two_eq_zero_or_one (n/2^(12-j))with h2 | h2
  ·rw[h2,Nat.zero_mul]at hb;exact absurd rfl hb
  exact h2
 rw[←Nat.pow_add,←Nat.pow_succ,Mb h,h1]
 congr 1
 omega
theorem PH {x:Nat}{n:Int}(hx:x<4294967296):aE true Tryz.prog 127 [] [.one (tv (.int .u32 ((x:Nat):Int))),.one (tv (.int .i64 n))] (aM (.tup [nO (zP x n),.one (tv (.int .i64 (uX n)))])):=by
 refine bD Tryz.func127 rfl Tryz.ntmps127 rfl aA rfl fun N9 w9 c0 h0=>?_
 refine sq ?_;refine rl ?_;refine o1 ?_;refine o1 ?_;refine nl ?_;refine sq ?_;refine bl ?_;refine sq ?_;refine rl ?_;(iterate 3 refine o1 ?_);refine nl ?_
 refine bN rfl (fun h1=>?_) (fun h1=>?_)
 ·refine sq ?_;refine rl ?_;refine o1 ?_;refine o1 ?_;refine nl ?_;refine rt ?_;have he:uX n=2:=by unfold uX;rw[if_pos (by omega)]
  exact en (.inl rfl) rfl (dE (.cons (.one (.nil (t:=115) (z:=1))) (.cons (aP _) .nil))) (by decide) (fun _=>⟨.inl ⟨rfl,trivial⟩,trivial,trivial⟩) (by rw[he,zP,he,if_neg (by decide)];rfl)
 refine sq ?_;refine rl ?_;(iterate 3 refine o1 ?_);refine nl ?_;refine bN rfl (fun h2=>?_) (fun h2=>?_)
 ·refine sq ?_;refine rl ?_;refine o1 ?_;refine o1 ?_;refine nl ?_;refine rt ?_;have he:uX n=3:=by unfold uX;rw[if_neg (by omega),if_pos (by omega)]
  exact en (.inl rfl) rfl (dE (.cons (.one (.nil (t:=115) (z:=1))) (.cons (aP _) .nil))) (by decide) (fun _=>⟨.inl ⟨rfl,trivial⟩,trivial,trivial⟩) (by rw[he,zP,he,if_neg (by decide)];rfl)
 refine sk ?_;refine sq ?_;refine rl ?_;refine bs 0 ?_;refine o1 ?_;refine nl ?_;refine sq ?_;refine sq ?_;refine rl ?_;refine o1 ?_;refine nl ?_;refine bl ?_
 have h1p:dg 4294967296 (x^(n.toNat/2^(13-0)))=[1]:=by rw[show n.toNat/2^(13-0)=0 from Nat.div_eq_of_lt (show n.toNat<8192 by omega),Nat.pow_zero];decide
 refine lp (γ:=Nat) (fun s=>cD [(0,.one (tv (.int .u32 ((x:Nat):Int)))),(1,.one (tv (.int .i64 n))),(6,.one (.sl 0 0 ((dg 4294967296 (x^(n.toNat/2^(13-s)))).length))),(7,.one (tv (.int .i64 ((4096/2^s:Nat):Int))))]) (fun s=>[(⟨115,1,(aR (dg 4294967296 (x^(n.toNat/2^(13-s))))).map .t⟩:Ob)].map some) (fun s=>s≤13) (fun s=>13-s) 0 (by omega) (aO h0 [0] _ _ (by decide) ⟨rfl,rfl,(congrArg (fun l:List Nat=>some (FV.one (.sl 0 0 l.length))) h1p),rfl,trivial⟩ ⟨cM (congrArg (fun l:List Nat=>some (⟨115,1,(aR l).map .t⟩:Ob)) h1p.symm),rfl⟩) ?_
 rintro j hj;refine sq ?_;refine sq ?_;refine rl ?_;refine o1 ?_;refine o1 ?_;refine nl ?_;refine bN rfl (fun h3=>?_) (fun h3=>?_)
 ·refine sk ?_;refine sq ?_;refine bl ?_;refine sq ?_;have hj12:j≤12:=by
   rcases Nat.lt_or_ge 12 j with h9 | h9
   ·have h8:j=13:=by omega
    rw[h8]at h3;exact absurd h3 (by decide)
   exact h9
  have hpl:=Lz (m:=n.toNat/2^(13-j)) hx
  have hql:=Lz (m:=n.toNat/2^(13-j)+n.toNat/2^(13-j)) hx
  rw[Nat.pow_add]at hql;have hnl:n.toNat/2^(13-j)≤n.toNat:=Nat.div_le_self _ _
  have hbj:4096/2^j≤4096:=Nat.div_le_self _ _
  refine rl ?_;refine o1 ?_;refine o1 ?_
  refine gG 1 (PE (Nn.of (by omega)) (Nn.of (by omega)) rfl) BG ⟨pA rfl (.sl rfl rfl (lI _) (aY _)),pA rfl (.sl rfl rfl (lI _) (aY _)),rfl⟩ ?_
  refine o1 ?_;refine nl ?_;refine sq ?_;refine rl ?_;(iterate 3 refine o1 ?_)
  refine WL.cast (t:=24) (u':=.int .i64 (((n.toNat&&& 4096/2^j):Nat):Int)) rfl (aH (by rw[show(n:Int)=((n.toNat:Nat):Int) by omega];exact EN (by omega) (by omega))) ?_
  refine o1 ?_;refine nl ?_;refine bN rfl (fun h4=>?_) (fun h4=>?_)
  ·refine rl ?_;refine o1 ?_;refine o1 ?_;refine gG 2 (Pq (Nn.of (by omega)) hx (PG hj12 (by omega))) zL ⟨pA rfl (.sl rfl rfl (lI _) (aY _)),a1 rfl,rfl⟩ ?_
   refine o1 ?_;refine nl ?_;refine rl ?_;refine o1 ?_;refine o1 ?_;refine WL.cast (t:=18) (u':=.int .i64 (((4096/2^(j+1)):Nat):Int)) rfl (aH Hh) ?_;refine o1 ?_
   refine nl ?_;have hpw:x^(n.toNat/2^(12-j))=x^(n.toNat/2^(12-j)):=rfl
   exact⟨j+1,by omega,by omega,aO h0 [2] _ _ (by decide) ⟨rfl,rfl,(congrArg (fun z:Nat=>some (FV.one (.sl 2 0 (dg 4294967296 z).length))) (show x^(n.toNat/2^(13-(j+1)))=_ from(by rw[show 13-(j+1)=12-j by omega]))),rfl,trivial⟩ ⟨cM (congrArg (fun z:Nat=>some (⟨115,1,(aR (dg 4294967296 z)).map .t⟩:Ob)) (show x^(n.toNat/2^(13-(j+1)))=_ from(by rw[show 13-(j+1)=12-j by omega])).symm),rfl⟩⟩
  refine sk ?_;refine rl ?_;refine o1 ?_;refine o1 ?_;refine WL.cast (t:=18) (u':=.int .i64 (((4096/2^(j+1)):Nat):Int)) rfl (aH Hh) ?_;refine o1 ?_;refine nl ?_
  have hpw:x^(n.toNat/2^(12-j))=x^(n.toNat/2^(13-j))*x^(n.toNat/2^(13-j)):=(PF hj12 (by omega)).symm
  exact⟨j+1,by omega,by omega,aO h0 [1] _ _ (by decide) ⟨rfl,rfl,(congrArg (fun z:Nat=>some (FV.one (.sl 1 0 (dg 4294967296 z).length))) (show x^(n.toNat/2^(13-(j+1)))=_ from(by rw[show 13-(j+1)=12-j by omega];exact hpw))),rfl,trivial⟩ ⟨cM (congrArg (fun z:Nat=>some (⟨115,1,(aR (dg 4294967296 z)).map .t⟩:Ob)) (show x^(n.toNat/2^(13-(j+1)))=_ from(by rw[show 13-(j+1)=12-j by omega];exact hpw)).symm),rfl⟩⟩
 refine ex ?_;refine sq ?_;refine rl ?_;(iterate 3 refine o1 ?_);refine nl ?_;refine rt ?_;have he:uX n=0:=by unfold uX;rw[if_neg (by omega),if_neg (by omega)]
 have hj13:j=13:=by
  rcases Nat.lt_or_ge 12 j with h9 | h9
  ·omega
  have h8:=Td h9
  have h7:=Nat.pow_pos (n:=12-j) (show 0<2 by omega)
  omega
 subst hj13
 exact en (.inl rfl) rfl (dE (.cons (.one (.sl (trs:=aR (dg 4294967296 (x^(n.toNat/2^(13-13))))) rfl rfl (bG _) (aY _))) (.cons (aP _) .nil))) (by decide) (fun _=>⟨.inl ⟨rfl,eB _⟩,trivial,trivial⟩) (by rw[he,zP,he,if_pos rfl,show n.toNat/2^(13-13)=n.toNat by simp];rfl)
theorem zQ (k:Int):iX (kO k):=by
 simp only[iX,kO,nS,List.map_cons,List.map_nil,jB,qA,sU,lN]
 exact⟨trivial,.inl ⟨trivial,eB _⟩,trivial⟩
section
variable {f:FuncId}{args:List FV}
end
section
variable {a b:Fr4}{p q:Rat}{x y:Zi}{k k':Int}
theorem PI:aE true Tryz.prog 63 [] [] (aM (kO 1)):=zO
theorem rI (h:Zn x k) (h':Zn y k'):aE true Tryz.prog 65 [] [gF x,gF y] (aM (kO (k*k'))):=Fh h.g h'.g
theorem zR (h:Zn x k) (h':Zn y k'):aE true Tryz.prog 61 [] [gF x,gF y] (aM (.one (tv (.int .i64 (k-k').sign)))):=Fd h.g h'.g (by have:=xU k k';have:=h.len;have:=h'.len;omega)
theorem PJ (h:Qn a p) (h':Qn b q):aE true Tryz.prog 28 [] [qF a,qF b] (aM (qO (p+q))):=JI h h'
theorem PK (h:Qn a p) (h':Qn b q):aE true Tryz.prog 24 [] [qF a,qF b] (aM (qO (p-q))):=JJ h h'
theorem rJ (h:Qn a p):aE true Tryz.prog 29 [] [qF a] (aM (.one (tv (.int .i64 p.num.sign)))):=EM h
theorem BH (hp:Sz 68719476736 p) (hq:Sz 68719476736 q):aE true Tryz.prog 66 [] [qF (.of p),qF (.of q)] (aM (qO (p+q))):=Pl hp hq
theorem Hi (ha:a.ok):aE true Tryz.prog 109 [] [qF a] (aM (.one (tv (.bool (dC a.s a.x a.t a.y))))):=Hf ⟨ha,rfl⟩
theorem cY {z:Int}(h1:-9223372036854775808≤z) (h2:z≤9223372036854775807):aE true Tryz.prog 22 [] [.one (tv (.int .i64 z))] (aM (qO (z:Rat))):=Xo h1 h2
theorem Te (hp:Sz 68719476736 p):aE true Tryz.prog 66 [] [qF (.of p),qF (.of ((0:Int):Rat))] (aM (qO p)):=by
 have:=BH hp ((bY (z:=0) (by omega) (by omega)).mono (by omega))
 rwa[show p+((0:Int):Rat)=p from Rat.add_zero p]at this
end
section
variable {x y:Zi}{k k':Int}
theorem Dl (h:Zn x k) (h':Zn y k') (h0:k'≠0):aE true Tryz.prog 110 [] [gF x,gF y] (aM (qO (Rat.divInt k k'))):=uU h.g h'.g h0
theorem PL {a:Fr4}{p:Rat}(h:Qn a p):aE true Tryz.prog 26 [] [qF a] (aM (qO (-p))):=Tc h
theorem BI (p q:Rat):Rat.divInt (p.num*q.num) ((p.den:Int)*(q.den:Int))=p*q:=by
 rw[←Rat.divInt_mul_divInt,Rat.num_divInt_den,Rat.num_divInt_den]
theorem jC {L M:Nat}{p q:Rat}(hp:Sz L p) (hq:Sz M q):Sz (L+M) (p*q):=by
 rw[←BI p q]
 have h5:=jD (Int.mul_pos (show(0:Int)<p.den by have:=p.den_pos;omega) (show(0:Int)<q.den by have:=q.den_pos;omega)) (jT hp.1 hq.1) (jT (nE hp) (nE hq))
 exact⟨h5.1,h5.2⟩
theorem Dm (p:Rat) (l:List Rat) (q:Rat):eE p (l++[q])=if eE p l<q then q else eE p l:=by
 unfold eE
 rw[List.foldl_append]
 rfl
theorem den_nz (p q:Rat):(p.den:Int)*(q.den:Int)≠0:=by
 have h1:=p.den_pos
 have h2:=q.den_pos
 exact Int.ne_of_gt (Int.mul_pos (by omega) (by omega))
theorem Hj {L:Nat}{k:Int}(h:nT L k):nT L (-k):=by
 unfold nT
 rw[Int.natAbs_neg]
 exact h
theorem zS {n:Int}(h1:-9223372036854775808≤n) (h2:n≤9223372036854775807):nT 2 n:=nM h1 h2
theorem iA {n d:Int}(h1:-9223372036854775808≤n) (h2:n≤9223372036854775807) (h3:-9223372036854775808≤d) (h4:d≤9223372036854775807):Sz 2 (Rat.divInt n d):=by
 rcases Int.lt_trichotomy d 0 with hd | hd | hd
 ·rw[←Rat.neg_divInt_neg]
  obtain⟨e1,e2⟩:=jD (a:=-n) (b:=-d) (L:=2) (M:=2) (by omega) (Hj (zS h1 h2)) (Hj (zS h3 h4))
  exact⟨e1,e2⟩
 ·subst hd
  rw[Rat.divInt_zero]
  exact⟨Nat.zero_le _,by decide⟩
 obtain⟨e1,e2⟩:=jD (a:=n) (b:=d) (L:=2) (M:=2) hd (zS h1 h2) (zS h3 h4)
 exact⟨e1,e2⟩
end
section
variable {x:Cx}{g g':Nat→FV}{ob ob':List (Option Ob)}{cs cs':List Co}{ts ts':Array Value}{W W' W1:World}{Q:Post}{ops:Array Oper}{late:Nat→Bool}{K fr fr':List Nat}{on:Bool}{fuel:Nat}{listed listed':Array Bool}
theorem RelC.conv0 (h0:x.c0.length=0){live:List (Nat×FV)}(h1:pF [] g live) (hR:RelC x g ob cs ts W):RelC x (cD live) [] [] ts W∧∀b,x.fr W ob cs b→x.fr W [] [] b:=by
 have hL:=(hR.2.pick [] List.nodup_nil).pickS []
 have hN:∀b,x.fr W ob cs b→x.fr W [] [] b:=fun b hb=>⟨⟨hb.1.1,by simp[cI,aK]⟩,hb.2⟩
 refine⟨.of hR.1 hL ⟨rfl,fun k o hk=>by simp at hk⟩ (fun i hi=>?_) ⟨by simp[h0],fun k hk=>by omega⟩,hN⟩
 obtain⟨u,e1,e2⟩:=hR.fv hi
 exact⟨u,e1,wI (τ:=[]) hN e2 h1⟩
theorem WD.conv {live:List (Nat×FV)}(k:WD x ops Q late [] fr' on fuel listed' (cD live) []) (h0:x.c0.length=0) (h1:pF [] g live) (hfr:fr.all (fun i=>fr'.any (Nat.beq i))=true) (hl:listed=listed'):WD x ops Q late [] fr on fuel listed g ob:=fun Kp W1 cs ts W hR q1 q2 q3=>by
 subst hl
 obtain⟨hR',hN⟩:=hR.conv0 h0 h1
 refine k Kp W1 [] ts W hR' q1 q2 fun hon=>?_
 obtain⟨a,b,c,d⟩:=q3 hon
 refine⟨a,fun bb _=>.inl (by simp[cI,aK]),fun k9 hk9=>(by cases hk9),fun i hi=>?_⟩
 obtain⟨u,e1,e2⟩:=d i hi
 refine⟨u,e1,?_⟩
 unfold kU at e2⊢
 cases hq:fr'.any (Nat.beq i)with
 | true=>simp[bH,bU]
 | false=>
  have hq2:fr.any (Nat.beq i)=false:=by
   cases hq3:fr.any (Nat.beq i)with
   | false=>rfl
   | true=>
    obtain⟨j,hj,hb⟩:=List.any_eq_true.1 hq3
    have:=Nat.eq_of_beq_eq_true hb
    subst this
    rw[List.all_eq_true.1 hfr i hj]at hq
    cases hq
  rw[hq2]at e2
  exact wI (τ:=[]) (fun b hb=>⟨hN b hb.1,hb.2⟩) e2 h1
end
section
variable {x:Cx}{g:Nat→FV}{ob ob':List (Option Ob)}{Q:Post}{ops:Array Oper}{rest:List Oper}{d:Nat}{op:Op}{ty:TypeId}{pos:String}{af:Array Edge}{gd:Option (Nat×Bool)}{C:Prop}{v:FV}{T:List (Nat×TI)}
theorem WE {fresh:Bool}{f:FuncId}{lent lent':List Lt}{al:List FV}{fst caps:List Tr}{r:FV}{os:List Ob}{cf:Operand}{aa:Array Operand}{ats:Array TypeId}(key:Nat) (K:List Nat) (args:List FV) (hc:lk x.n g cf=.one (.t (.f f fst caps))) (hS:aE fresh x.P f lent al (Rt lent' r)) (hf:CallOk x.P f) (hK:fL ob K K lent) (ha:pG x.n g K aa.toList args){ok:List (Option Ob)}(hbk:eR K lent' ok) (k:WL x ops rest (bB g d v) (bS ob K ok++os.map some) Q) (hw:bC ops x.n g gd=some true:=by rfl) (hk:dX ob key=true:=by rfl) (hnd:K.Nodup:=by decide) (hb:lB key r=some (v,os):=by rfl) (he:eF fst++args++eF caps=al:=by rfl):
  WL x ops (⟨some d,.call ⟨.value cf,aa,ats⟩,ty,pos,af,gd⟩::rest) g ob Q:=by
 subst he
 refine fT (sW hS hf (Pr hc) hK hnd ha hk (by rintro _ _ ⟨rfl,rfl⟩ _;exact⟨by rw[hb];rfl,ok,hbk⟩)) hw ?_
 rintro _ _ ⟨l,r',v',os',ok',⟨rfl,rfl⟩,_,h,h9,rfl,rfl⟩
 obtain rfl:=uY hbk h9
 rw[hb]at h
 injection h with h
 injection h with h1 h2
 subst h1 h2
 exact k
theorem PM {late:Nat→Bool}{K fr:List Nat}{fuel:Nat}{listed:Array Bool}{t key o:Nat}{ti:TI}{a b:Operand}(i:Nat) (hi:ops[i]? =some ⟨none,.store t a b,ty,pos,af,gd⟩) (hw:bC ops x.n g gd=some true) (hT:bT x.P T) (hti:bE T t=some ti) (h:uZ ti ob (lk x.n g b) (lk x.n g a)=some ob') (hlk:lk x.n g a=.one (.pt key o)) (hK:K.contains key=false) (hke:qB ob ob' K)
  (k:WD x ops Q late K fr true fuel (listed.setIfInBounds i true) g ob'):WO x ops Q late K fr true fuel listed i g ob:=by
 obtain⟨ky,hs,o2,hlk2⟩:=Fi (ty:=ty) (pos:=pos) (af:=af) (gd:=gd) hT hti h
 rw[hlk]at hlk2
 injection hlk2 with e
 injection e with e1 e2
 subst e1
 refine BJ i hi hw hs true (fun _=>⟨rfl,fun k hk hm=>?_⟩) (fun _=>rfl) (fun _ g' ob' hR=>?_) fun g' ob' hR=>?_
 ·rw[List.mem_singleton]at hm
  subst hm
  have:K.contains k=true:=by simpa using hk
  rw[hK]at this
  cases this
 ·obtain⟨rfl,rfl⟩:=hR
  exact⟨fun _ _=>rfl,jE hke⟩
 obtain⟨rfl,rfl⟩:=hR
 exact k
end
theorem Mc {n:Nat}(h:0<n):1≤(dg 4294967296 n).length:=by rw[lG (by omega) (by omega)];simp
theorem Dn {L:Nat}{k:Int}(h:nT L k):nT L (-k):=by unfold nT at*;rwa[Int.natAbs_neg]
theorem xV (p:Rat):(dg 4294967296 (p.num.fmod (p.den:Int)).natAbs).length≤(dg 4294967296 p.den).length:=by
 refine dG ?_
 have h1:=Int.fmod_nonneg_of_pos p.num (show(0:Int)<p.den by have:=p.den_pos;omega)
 have h2:=Int.fmod_lt_of_pos p.num (show(0:Int)<p.den by have:=p.den_pos;omega)
 omega
theorem vA (p:Rat):(dg 4294967296 (fl p).natAbs).length≤(dg 4294967296 p.num.natAbs).length:=by
 refine dG ?_
 rw[←mM,Int.fdiv_eq_ediv_of_nonneg _ (by omega)]
 exact Int.natAbs_ediv_le_natAbs _ _
theorem zT {L M:Nat}{p q:Rat}(hp:Sz L p) (hq:Sz M q):Sz (L+M+1) (p/q):=by
 rw[←Pb p q]
 have hd:(0:Int)<p.den:=by have:=p.den_pos;omega
 have hd2:(0:Int)<q.den:=by have:=q.den_pos;omega
 by_cases h0:q.num=0
 ·rw[h0,Int.mul_zero,Rat.divInt_zero]
  exact(bY (z:=0) (by omega) (by omega)).mono (by
   have:=Mc q.den_pos
   have:=hq.2
   have:=Mc p.den_pos
   have:=hp.2
   omega)
 by_cases h1:0<q.num
 ·have h5:=jD (Int.mul_pos hd h1) (jT hp.1 (nE hq)) (jT (nE hp) hq.1)
  exact⟨Nat.le_trans h5.1 (by omega),Nat.le_trans h5.2 (by omega)⟩
 have e:Rat.divInt (p.num*(q.den:Int)) ((p.den:Int)*q.num)=Rat.divInt (-(p.num*(q.den:Int))) (-((p.den:Int)*q.num)):=(Rat.neg_divInt_neg _ _).symm
 rw[e]
 have h6:0< -((p.den:Int)*q.num):=by
  have:=Int.mul_pos hd (show 0< -q.num by omega)
  rw[Int.mul_neg]at this
  exact this
 have h5:=jD h6 (Dn (jT hp.1 (nE hq))) (Dn (jT (nE hp) hq.1))
 exact⟨Nat.le_trans h5.1 (by omega),Nat.le_trans h5.2 (by omega)⟩
theorem Hk {p q:Rat}:((p.den:Int)*q.num=0)↔q=0:=by
 have h1:=p.den_pos
 constructor
 ·intro h
  rcases Int.mul_eq_zero.1 h with h2 | h2
  ·omega
  exact Rat.num_eq_zero.1 h2
 rintro rfl
 simp
def lO (l:List Rat):List Fr4:=l.map Fr4.of
theorem BK (l:List Rat):(lO l).map Fr4.q=l:=by
 unfold lO
 rw[List.map_map]
 exact(List.map_congr_left fun x _=>Fr4.q_of x).trans (List.map_id l)
theorem Md (l:List Rat):(lO l).length=l.length:=by simp[lO]
theorem dA {a:Fr4}{p:Rat}(ha:Qn a p):aE false Tryz.prog 60 [] [qF a] (aM (qF (.of p))):=mR ha
theorem lP {a b:Fr4}{p q:Rat}(ha:Qn a p) (hb:Qn b q):aE true Tryz.prog 27 [] [qF a,qF b] (aM (.one (tv (.int .i64 (p-q).num.sign)))):=by
 refine bD Tryz.func27 rfl Tryz.ntmps27 rfl aA rfl fun N w c0 h0=>?_
 have hs:=ha.sz;have hs':=hb.sz
 have hs1:=hs.1;have hs2:=hs.2;have hs3:=hs'.1;have hs4:=hs'.2
 have hs5:(dg 4294967296 ((p.den:Int)).natAbs).length≤68719476736:=hs2
 have hs6:(dg 4294967296 ((q.den:Int)).natAbs).length≤68719476736:=hs4
 refine sq ?_;refine rl ?_;refine bx 0 ?_;refine bx 1 ?_;refine o1 ?_;refine nl ?_
 refine md (γ:=Unit) (fun _=>cD [(2,.one (.pt 0 0)),(3,.one (.pt 1 0)),(4,.one (tv (.int .i64 ((0:Nat):Int))))]) (fun _=>([⟨27,0,((Fr4.of p).tr false).map .t⟩,⟨27,0,((Fr4.of q).tr false).map .t⟩]:List Ob).map some) (fun _=>True) ?_ fun _ _=>?_
 ·refine rd [0,1] (fun i=>[0,1,2,3,4,5].contains i) mixed ?_
  refine WO.two (i:=0) (j:=2) (by kernel_rfl) ?_ ?_
  ·refine eN 0 ?_;refine WO.two (i:=1) (j:=2) (by kernel_rfl) ?_ ?_
   ·refine cZ 1 rfl (dA ha) eL ⟨aB rfl,rfl⟩ (qF (.of p)) ?_;refine WO.one (by kernel_rfl) (eN 2 ?_)
    refine aG 3 rfl (dA hb) eL ⟨aB rfl,rfl⟩ (qF (.of q)) ?_;refine dst 4 ?_;refine dst 5 ?_;refine aS ?_
    exact⟨(),trivial,aO h0 [0,1] _ _ (by decide) ⟨rfl,rfl,rfl,trivial⟩ ⟨oe rfl rfl,oe rfl rfl,rfl⟩⟩
   refine eN 2 ?_;refine aG 1 rfl (dA ha) eL ⟨aB rfl,rfl⟩ (qF (.of p)) ?_;refine aG 3 rfl (dA hb) eL ⟨aB rfl,rfl⟩ (qF (.of q)) ?_;refine dst 4 ?_;refine dst 5 ?_
   refine aS ?_;exact⟨(),trivial,aO h0 [0,1] _ _ (by decide) ⟨rfl,rfl,rfl,trivial⟩ ⟨oe rfl rfl,oe rfl rfl,rfl⟩⟩
  refine eN 2 ?_;refine WO.one (by kernel_rfl) (eN 0 ?_)
  refine aG 1 rfl (dA ha) eL ⟨aB rfl,rfl⟩ (qF (.of p)) ?_;refine aG 3 rfl (dA hb) eL ⟨aB rfl,rfl⟩ (qF (.of q)) ?_;refine dst 4 ?_;refine dst 5 ?_;refine aS ?_
  exact⟨(),trivial,aO h0 [0,1] _ _ (by decide) ⟨rfl,rfl,rfl,trivial⟩ ⟨oe rfl rfl,oe rfl rfl,rfl⟩⟩
 refine sq ?_;refine rd [0,1] (fun i=>[11].contains i) mixed ?_
 refine dv 0 ?_;refine aU 1 ?_;refine dv 2 ?_;refine aU 3 ?_;refine dv 5 ?_;refine aU 6 ?_;refine dv 7 ?_;refine aU 8 ?_;have hn1:=cO (p.num) ((q.den:Int))
 refine aG 4 rfl (rI (eA hs) (cN hs')) sV ⟨aB rfl,aB rfl,rfl⟩ (kF ((p.num*(q.den:Int)))) ?_;have hn2:=cO (q.num) ((p.den:Int))
 refine aG 9 rfl (rI (eA hs') (cN hs)) sV ⟨aB rfl,aB rfl,rfl⟩ (kF ((q.num*(p.den:Int)))) ?_
 refine aG 10 rfl (zR (Zn.of (k:=(p.num*(q.den:Int))) (by omega)) (Zn.of (k:=(q.num*(p.den:Int))) (by omega))) xR ⟨aB rfl,aB rfl,rfl⟩ (.one (tv (.int .i64 ((p.num*(q.den:Int))-(q.num*(p.den:Int))).sign))) ?_
 refine cV 11 (by kernel_rfl) rfl rfl aA rfl (by trivial) ?_ (fun h=>by first | rfl | cases h)
 refine aS ?_;refine rt ?_;exact en (.inl rfl) rfl (aV (aP _)) (by decide) (fun _=>trivial) (by rw[←Tf];rfl)
theorem Xq {p q:Rat}(h:(p.num-q.num).sign=0):decide (((p.den:Int)-(q.den:Int)).sign=0)=decide (p=q):=by
 have h1:=Int.sign_eq_zero_iff_zero.1 h
 rw[decide_eq_decide,Int.sign_eq_zero_iff_zero]
 exact⟨fun h2=>Rat.ext (by omega) (by omega),fun h2=>by subst h2;omega⟩
theorem EO {p q:Rat}(h:¬(p.num-q.num).sign=0):false=decide (p=q):=by
 refine(decide_eq_false fun h2=>h ?_).symm
 subst h2
 rw[Int.sub_self]
 rfl
theorem JN {a b:Fr4}{p q:Rat}(ha:Qn a p) (hb:Qn b q):aE true Tryz.prog 21 [] [qF a,qF b] (aM (.one (tv (.bool (decide (p=q)))))):=by
 refine bD Tryz.func21 rfl Tryz.ntmps21 rfl aA rfl fun N w c0 h0=>?_
 have hs:=ha.sz;have hs':=hb.sz
 refine sq ?_;refine rl ?_;refine bx 0 ?_;refine bx 1 ?_;refine o1 ?_;refine nl ?_
 refine md (γ:=Unit) (fun _=>cD [(2,.one (.pt 0 0)),(3,.one (.pt 1 0)),(4,.one (tv (.bool false)))]) (fun _=>([⟨27,0,((Fr4.of p).tr false).map .t⟩,⟨27,0,((Fr4.of q).tr false).map .t⟩]:List Ob).map some) (fun _=>True) ?_ fun _ _=>?_
 ·refine rd [0,1] (fun i=>[0,1,2,3,4,5].contains i) mixed ?_
  refine WO.two (i:=0) (j:=2) (by kernel_rfl) ?_ ?_
  ·refine eN 0 ?_;refine WO.two (i:=1) (j:=2) (by kernel_rfl) ?_ ?_
   ·refine cZ 1 rfl (dA ha) eL ⟨aB rfl,rfl⟩ (qF (.of p)) ?_;refine WO.one (by kernel_rfl) (eN 2 ?_)
    refine aG 3 rfl (dA hb) eL ⟨aB rfl,rfl⟩ (qF (.of q)) ?_;refine dst 4 ?_;refine dst 5 ?_;refine aS ?_
    exact⟨(),trivial,aO h0 [0,1] _ _ (by decide) ⟨rfl,rfl,rfl,trivial⟩ ⟨oe rfl rfl,oe rfl rfl,rfl⟩⟩
   refine eN 2 ?_;refine aG 1 rfl (dA ha) eL ⟨aB rfl,rfl⟩ (qF (.of p)) ?_;refine aG 3 rfl (dA hb) eL ⟨aB rfl,rfl⟩ (qF (.of q)) ?_;refine dst 4 ?_;refine dst 5 ?_
   refine aS ?_;exact⟨(),trivial,aO h0 [0,1] _ _ (by decide) ⟨rfl,rfl,rfl,trivial⟩ ⟨oe rfl rfl,oe rfl rfl,rfl⟩⟩
  refine eN 2 ?_;refine WO.one (by kernel_rfl) (eN 0 ?_)
  refine aG 1 rfl (dA ha) eL ⟨aB rfl,rfl⟩ (qF (.of p)) ?_;refine aG 3 rfl (dA hb) eL ⟨aB rfl,rfl⟩ (qF (.of q)) ?_;refine dst 4 ?_;refine dst 5 ?_;refine aS ?_
  exact⟨(),trivial,aO h0 [0,1] _ _ (by decide) ⟨rfl,rfl,rfl,trivial⟩ ⟨oe rfl rfl,oe rfl rfl,rfl⟩⟩
 refine sq ?_;refine rl ?_;refine o1 ?_;refine ld ?_;refine o1 ?_;refine ld ?_
 refine ca (zR (eA hs) (eA hs')) xR ⟨aB rfl,aB rfl,rfl⟩ (.one (tv (.int .i64 (p.num-q.num).sign))) ?_;refine o1 ?_;refine o1 ?_
 refine WL.split (t:=15) rfl (fun h1=>?_) (fun h1=>?_)
 ·refine o1 ?_;refine ld ?_;refine o1 ?_;refine ld ?_;refine ca (zR (cN hs) (cN hs')) xR ⟨aB rfl,aB rfl,rfl⟩ (.one (tv (.int .i64 ((p.den:Int)-(q.den:Int)).sign))) ?_
  (iterate 3 refine o1 ?_);refine nl ?_;refine rt ?_;exact en (.inl rfl) rfl (aV (aP _)) (by decide) (fun _=>trivial) (congrArg (fun z=>FV.one (tv (.bool z))) (Xq h1))
 (iterate 6 refine cG ?_);refine o1 ?_;refine o1 ?_;refine nl ?_;refine rt ?_
 exact en (.inl rfl) rfl (aV (aP _)) (by decide) (fun _=>trivial) (congrArg (fun z=>FV.one (tv (.bool z))) (EO h1))
theorem Fj {a b:Fr4}{p q:Rat}(ha:Qn a p) (hb:Qn b q):aE true Tryz.prog 56 [] [qF a,qF b] (aM (qO (p*q))):=by
 refine bD Tryz.func56 rfl Tryz.ntmps56 rfl aA rfl fun N w c0 h0=>?_
 have hs:=ha.sz;have hs':=hb.sz
 have hs1:=hs.1;have hs2:=hs.2;have hs3:=hs'.1;have hs4:=hs'.2
 have hs5:(dg 4294967296 ((p.den:Int)).natAbs).length≤68719476736:=hs2
 have hs6:(dg 4294967296 ((q.den:Int)).natAbs).length≤68719476736:=hs4
 refine sq ?_;refine rl ?_;refine bx 0 ?_;refine bx 1 ?_;refine al 2 ?_;refine nl ?_
 refine md (γ:=Unit) (fun _=>cD [(2,.one (.pt 0 0)),(3,.one (.pt 1 0)),(4,.one (.pt 2 0))]) (fun _=>([⟨27,0,((Fr4.of p).tr false).map .t⟩,⟨27,0,((Fr4.of q).tr false).map .t⟩,⟨27,0,[tv (.bool false),tv (.slice none 0 0),tv (.bool false),tv (.slice none 0 0)]⟩]:List Ob).map some) (fun _=>True) ?_ fun _ _=>?_
 ·refine rd [0,1,2] (fun i=>[0,1,2,3,4,5].contains i) mixed ?_
  refine WO.two (i:=0) (j:=2) (by kernel_rfl) ?_ ?_
  ·refine eN 0 ?_;refine WO.two (i:=1) (j:=2) (by kernel_rfl) ?_ ?_
   ·refine cZ 1 rfl (dA ha) eL ⟨aB rfl,rfl⟩ (qF (.of p)) ?_;refine WO.one (by kernel_rfl) (eN 2 ?_)
    refine aG 3 rfl (dA hb) eL ⟨aB rfl,rfl⟩ (qF (.of q)) ?_;refine dst 4 ?_;refine dst 5 ?_;refine aS ?_
    exact⟨(),trivial,aO h0 [0,1,2] _ _ (by decide) ⟨rfl,rfl,rfl,trivial⟩ ⟨oe rfl rfl,oe rfl rfl,oe rfl rfl,rfl⟩⟩
   refine eN 2 ?_;refine aG 1 rfl (dA ha) eL ⟨aB rfl,rfl⟩ (qF (.of p)) ?_;refine aG 3 rfl (dA hb) eL ⟨aB rfl,rfl⟩ (qF (.of q)) ?_;refine dst 4 ?_;refine dst 5 ?_
   refine aS ?_;exact⟨(),trivial,aO h0 [0,1,2] _ _ (by decide) ⟨rfl,rfl,rfl,trivial⟩ ⟨oe rfl rfl,oe rfl rfl,oe rfl rfl,rfl⟩⟩
  refine eN 2 ?_;refine WO.one (by kernel_rfl) (eN 0 ?_)
  refine aG 1 rfl (dA ha) eL ⟨aB rfl,rfl⟩ (qF (.of p)) ?_;refine aG 3 rfl (dA hb) eL ⟨aB rfl,rfl⟩ (qF (.of q)) ?_;refine dst 4 ?_;refine dst 5 ?_;refine aS ?_
  exact⟨(),trivial,aO h0 [0,1,2] _ _ (by decide) ⟨rfl,rfl,rfl,trivial⟩ ⟨oe rfl rfl,oe rfl rfl,oe rfl rfl,rfl⟩⟩
 refine sq ?_;refine rd [0,1,2] (fun i=>[11].contains i) mixed ?_
 refine dv 0 ?_;refine aU 1 ?_;refine dv 2 ?_;refine aU 3 ?_;refine dv 5 ?_;refine aU 6 ?_;refine dv 7 ?_;refine aU 8 ?_;have hn1:=cO (p.num) (q.num)
 refine aG 4 rfl (rI (eA hs) (eA hs')) sV ⟨aB rfl,aB rfl,rfl⟩ (kF ((p.num*q.num))) ?_;have hn2:=cO ((p.den:Int)) ((q.den:Int))
 refine aG 9 rfl (rI (cN hs) (cN hs')) sV ⟨aB rfl,aB rfl,rfl⟩ (kF (((p.den:Int)*(q.den:Int)))) ?_
 refine mF 3 10 rfl (Dl (Zn.of (k:=(p.num*q.num)) (by omega)) (Zn.of (k:=((p.den:Int)*(q.den:Int))) (by omega)) (den_nz p q)) Fg ⟨aB rfl,aB rfl,rfl⟩ ?_
 refine dst 11 ?_;refine aS ?_;refine rt ?_
 exact en (.inl rfl) rfl (aV (.agg (.cons (.id rfl) (.cons (.sl (trs:=aR (dg 4294967296 (Rat.divInt (p.num*q.num) ((p.den:Int)*(q.den:Int))).num.natAbs)) rfl rfl (bG _) (aY _)) (.cons (.id rfl) (.cons (.sl (trs:=aR (dg 4294967296 (Rat.divInt (p.num*q.num) ((p.den:Int)*(q.den:Int))).den)) rfl rfl (bG _) (aY _)) .nil)))))) (by decide) (fun _=>uV _) (congrArg qO (BI p q))
theorem JO {a b:Fr4}{p q:Rat}(ha:Qn a p) (hb:Qn b q):aE true Tryz.prog 69 [] [qF a,qF b] (aM (.one (tv (.bool (decide (p<q)))))):=by
 refine bD Tryz.func69 rfl Tryz.ntmps69 rfl aA rfl fun N w c0 h0=>?_
 refine sq ?_;refine rl ?_;refine bx 0 ?_;refine bx 1 ?_;refine o1 ?_;refine nl ?_;refine sq ?_;refine rl ?_;refine ld ?_;refine o1 ?_;refine ld ?_
 refine ca (lP hb ha) lQ ⟨aB rfl,aB rfl,rfl⟩ (.one (tv (.int .i64 (q-p).num.sign))) ?_;refine o1 ?_;refine o1 ?_;refine nl ?_;refine rt ?_
 exact en (.inl rfl) rfl (aV (aP _)) (by decide) (fun _=>trivial) (congrArg (fun z=>FV.one (tv (.bool z))) (EP p q))
theorem JP {a:Fr4}:aE false Tryz.prog 68 [] [qF a] (aM (.one (.t (.f 69 [.a (a.tr false)] [])))):=by
 refine bD Tryz.func68 rfl Tryz.ntmps68 rfl aA rfl fun N w c0 h0=>?_
 refine sq ?_;refine rl ?_;refine bx 0 ?_;refine o1 ?_;refine nl ?_;refine sq ?_;refine rl ?_;refine ld ?_;refine o1 ?_;refine o1 ?_;refine nl ?_;refine rt ?_
 exact en (.inl rfl) rfl (aV (.one (.id rfl))) (by decide) (fun h=>by cases h) rfl
theorem EQ {a:Fr4}{p:Rat}{xs:List Fr4}(ha:Qn a p) (hx:∀x∈xs,x.ok) (hl:xs.length≤1099511627776):aE false Tryz.prog 67 [] [qF a,.one (.t (sQ false xs)),.one (.t (.f 68 [] []))] (aM (qF (.of (eE p (xs.map Fr4.q))))):=by
 refine bD Tryz.func67 rfl Tryz.ntmps67 rfl aA rfl fun N w c0 h0=>?_
 have hz:∀x∈xs,Sz 68719476736 x.q:=fun x h=>(show Qn x x.q from⟨hx x h,rfl⟩).sz
 refine sq ?_;refine rl ?_;refine bx 0 ?_;refine al 1 ?_;refine nl ?_;refine sq ?_;refine rl ?_;refine ld ?_;refine ca (dA ha) eL ⟨aB rfl,rfl⟩ (qF (.of p)) ?_
 refine ca (cY (z:=0) (by omega) (by omega)) fY ⟨a1 rfl,rfl⟩ (qF (.of ((0:Int):Rat))) ?_
 refine ca (Te ha.sz) Hg ⟨aB rfl,aB rfl,rfl⟩ (qF (.of p)) ?_;refine al 2 ?_;refine st ?_;refine nl ?_;refine sq ?_;refine sq ?_;refine rl ?_;(iterate 3 refine o1 ?_);refine nl ?_
 refine bl ?_
 refine lp (γ:=Nat) (fun k=>cD [(2,.one (.t (.f 68 [] []))),(6,.one (.pt 0 0)),(7,.one (.pt 1 0)),(14,.one (.t (sQ false xs))),(15,.one (tv (.int .i64 ((xs.length:Nat):Int)))),(16,.one (tv (.int .i64 ((k:Nat):Int))))]) (fun k=>[(⟨27,0,[tv (.bool false),tv (.slice none 0 0),tv (.bool false),tv (.slice none 0 0)]⟩:Ob),⟨27,0,((Fr4.of (eE p ((xs.take k).map Fr4.q))).tr false).map .t⟩].map some) (fun k=>k≤xs.length∧Sz 68719476736 (eE p ((xs.take k).map Fr4.q))) (fun k=>xs.length-k) 0 ⟨Nat.zero_le _,ha.sz⟩ (aO h0 [1,2] _ _ (by decide) ⟨rfl,rfl,rfl,rfl,rfl,rfl,trivial⟩ ⟨oe rfl rfl,cM rfl,rfl⟩) fun k hk=>?_
 refine sq ?_;refine rl ?_;refine o1 ?_;refine nl ?_;refine sq ?_;refine bN rfl (fun h1=>?_) (fun h1=>?_)
 ·refine sk ?_;refine sq ?_;refine bl ?_;refine sq ?_;refine rl ?_;refine o1 ?_;refine kD ((gQ xs (k)).tr false) (Gi xs (k:=k) (by omega)) ?_
  refine al 2 ?_;refine st ?_;refine nl ?_;refine sq ?_;refine rd [0,1,2] (fun i=>[].contains i) mixed ?_
  refine dv 0 ?_;refine aU 1 ?_;refine dv 2 ?_;refine aU 4 ?_
  refine SJ 3 3 [.agg [tv (.bool (aL (eE p ((xs.take k).map Fr4.q)).num)),.t (sU false (dg 4294967296 (eE p ((xs.take k).map Fr4.q)).num.natAbs)),tv (.bool false),.t (sU false (dg 4294967296 (eE p ((xs.take k).map Fr4.q)).den))]] rfl rfl (JP (a:=.of (eE p ((xs.take k).map Fr4.q)))) SZ ⟨rfl,rfl⟩ ?_
  refine SJ 5 3 [qF (gQ xs (k))] rfl rfl (JO (a:=.of (eE p ((xs.take k).map Fr4.q))) (b:=(gQ xs (k))) (Qn.of (p:=(eE p ((xs.take k).map Fr4.q))) hk.2) ⟨hx _ (hG (by omega)),rfl⟩) TA ⟨rfl,rfl⟩ ?_
  refine aS ?_;refine bN rfl (fun h2=>?_) (fun h2=>?_)
  ·refine rl ?_;refine ld ?_;refine ca (dA ⟨hx _ (hG (by omega)),rfl⟩) eL ⟨aB rfl,rfl⟩ (qF (.of (gQ xs (k)).q)) ?_
   refine ca (cY (z:=0) (by omega) (by omega)) fY ⟨a1 rfl,rfl⟩ (qF (.of ((0:Int):Rat))) ?_
   refine ca (Te (hz _ (hG (by omega)))) Hg ⟨aB rfl,aB rfl,rfl⟩ (qF (.of (gQ xs (k)).q)) ?_
   refine st ?_;refine nl ?_;refine rl ?_;refine o1 ?_;refine WL.cast (t:=30) (u':=.int .i64 ((k+1:Nat):Int)) rfl (aH (by omega)) ?_
   refine o1 ?_;refine nl ?_;have hst:(eE p ((xs.take (k+1)).map Fr4.q))=(gQ xs k).q:=by rw[zE (by omega),Dm];exact if_pos h2
   exact⟨k+1,by omega,⟨by omega,by rw[hst];exact hz _ (hG (by omega))⟩,aO h0 [0,1] _ _ (by decide) ⟨rfl,rfl,rfl,rfl,rfl,rfl,trivial⟩ ⟨oe rfl rfl,cM (congrArg (fun q=>some (⟨27,0,((Fr4.of q).tr false).map .t⟩:Ob)) hst.symm),rfl⟩⟩
  refine sk ?_;refine rl ?_;refine o1 ?_;refine WL.cast (t:=30) (u':=.int .i64 ((k+1:Nat):Int)) rfl (aH (by omega)) ?_
  refine o1 ?_;refine nl ?_;have hst:(eE p ((xs.take (k+1)).map Fr4.q))=(eE p ((xs.take k).map Fr4.q)):=by rw[zE (by omega),Dm];exact if_neg h2
  exact⟨k+1,by omega,⟨by omega,by rw[hst];exact hk.2⟩,aO h0 [0,1] _ _ (by decide) ⟨rfl,rfl,rfl,rfl,rfl,rfl,trivial⟩ ⟨oe rfl rfl,cM (congrArg (fun q=>some (⟨27,0,((Fr4.of q).tr false).map .t⟩:Ob)) hst.symm),rfl⟩⟩
 refine ex ?_;refine sq ?_;refine rl ?_;refine ld ?_;refine st ?_;refine nl ?_;refine rt ?_
 exact en (.inl rfl) rfl (aV (.agg (.cons (.id rfl) (.cons (.id rfl) (.cons (.id rfl) (.cons (.id rfl) .nil)))))) (by decide) (fun h=>by cases h) (by rw[List.take_of_length_le (by omega)];rfl)
theorem PN {a:Fr4}{p:Rat}{xs:List Fr4}(ha:Qn a p) (hx:∀x∈xs,x.ok) (hl:xs.length≤1099511627776):aE false Tryz.prog 25 [] [qF a,.one (.t (sQ false xs))] (aM (qF (.of (eE p (xs.map Fr4.q))))):=by
 refine bD Tryz.func25 rfl Tryz.ntmps25 rfl aA rfl fun N w c0 h0=>?_
 refine sq ?_;refine rl ?_;refine bx 0 ?_;refine al 1 ?_;refine nl ?_;refine sq ?_;refine rl ?_;refine ld ?_;refine o1 ?_
 refine ca (EQ ha hx hl) TB ⟨aB rfl,a1 rfl,a1 rfl,rfl⟩ (qF (.of (eE p (xs.map Fr4.q)))) ?_;refine st ?_;refine nl ?_;refine rt ?_
 exact en (.inl rfl) rfl (aV (.agg (.cons (.id rfl) (.cons (.id rfl) (.cons (.id rfl) (.cons (.id rfl) .nil)))))) (by decide) (fun h=>by cases h) (rfl)
theorem Ps {a b:Zi}{k k':Int}(ha:Zn a k) (hb:Zn b k'):aE false Tryz.prog 64 [] [gF a,gF b] (aM (.tup [qF (.of (Rat.divInt k k')),.one (tv (.int .i64 (if k'=0 then 20 else 0)))])):=by
 refine bD Tryz.func64 rfl Tryz.ntmps64 rfl aA rfl fun N9 w9 c0 h0=>?_
 refine sq ?_;refine rl ?_;refine bx 0 ?_;refine bx 1 ?_;refine al 2 ?_;refine o1 ?_;refine nl ?_;refine sq ?_;refine sq ?_;refine rl ?_;refine ld ?_
 refine ca (rG (hb).g) Bt ⟨aB rfl,rfl⟩ (.one (tv (.int .i64 (k').sign))) ?_;refine o1 ?_;refine nl ?_;refine bN rfl (fun h1=>?_) (fun h1=>?_)
 ·refine sq ?_;refine rl ?_;refine o1 ?_;refine ca (PI) Po rfl (kF 1) ?_;refine o1 ?_;refine st ?_;refine o1 ?_;refine nl ?_;refine rt ?_
  have hk0:k'=0:=Int.sign_eq_zero_iff_zero.1 h1
  have hd0:Rat.divInt k k'=0:=by rw[hk0];simp
  exact en (.inl rfl) rfl (dE (.cons (.agg (.cons (.id rfl) (.cons .nilf (.cons (.id rfl) (.cons (.id rfl) .nil))))) (.cons (aP _) .nil))) (by decide) (fun h=>by cases h) (by rw[if_pos hk0,hd0];exact congrArg (fun f=>FV.tup [f,.one (tv (.int .i64 20))]) SI)
 refine sk ?_;refine sq ?_;have hk0:k'≠0:=fun h9=>h1 (by rw[h9];rfl)
 refine rl ?_;refine ld ?_;refine ld ?_;refine ca (Dl ha hb hk0) Fg ⟨aB rfl,aB rfl,rfl⟩ (qF (.of (Rat.divInt k k'))) ?_;refine st ?_;refine o1 ?_;refine nl ?_;refine rt ?_
 exact en (.inl rfl) rfl (dE (.cons (.agg (.cons (.id rfl) (.cons (.id rfl) (.cons (.id rfl) (.cons (.id rfl) .nil))))) (.cons (aP _) .nil))) (by decide) (fun h=>by cases h) (by rw[if_neg hk0];rfl)
theorem Fk {a b:Fr4}{p q:Rat}(ha:Qn a p) (hb:Qn b q):aE false Tryz.prog 23 [] [qF a,qF b] (aM (.tup [qF (.of (p/q)),.one (tv (.int .i64 (if q=0 then 20 else 0)))])):=by
 refine bD Tryz.func23 rfl Tryz.ntmps23 rfl aA rfl fun N w c0 h0=>?_
 have hs:=ha.sz;have hs':=hb.sz
 have hs1:=hs.1;have hs2:=hs.2;have hs3:=hs'.1;have hs4:=hs'.2
 have hs5:(dg 4294967296 ((p.den:Int)).natAbs).length≤68719476736:=hs2
 have hs6:(dg 4294967296 ((q.den:Int)).natAbs).length≤68719476736:=hs4
 refine sq ?_;refine rl ?_;refine bx 0 ?_;refine bx 1 ?_;refine al 2 ?_;refine o1 ?_;refine nl ?_
 refine md (γ:=Unit) (fun _=>cD [(2,.one (.pt 0 0)),(3,.one (.pt 1 0)),(4,.one (.pt 2 0)),(5,.one (tv (.int .i64 ((0:Nat):Int))))]) (fun _=>([⟨27,0,((Fr4.of p).tr false).map .t⟩,⟨27,0,((Fr4.of q).tr false).map .t⟩,⟨27,0,[tv (.bool false),tv (.slice none 0 0),tv (.bool false),tv (.slice none 0 0)]⟩]:List Ob).map some) (fun _=>True) ?_ fun _ _=>?_
 ·refine rd [0,1,2] (fun i=>[0,1,2,3,4,5].contains i) mixed ?_
  refine WO.two (i:=0) (j:=2) (by kernel_rfl) ?_ ?_
  ·refine eN 0 ?_;refine WO.two (i:=1) (j:=2) (by kernel_rfl) ?_ ?_
   ·refine cZ 1 rfl (dA ha) eL ⟨aB rfl,rfl⟩ (qF (.of p)) ?_;refine WO.one (by kernel_rfl) (eN 2 ?_)
    refine aG 3 rfl (dA hb) eL ⟨aB rfl,rfl⟩ (qF (.of q)) ?_;refine dst 4 ?_;refine dst 5 ?_;refine aS ?_
    exact⟨(),trivial,aO h0 [0,1,2] _ _ (by decide) ⟨rfl,rfl,rfl,rfl,trivial⟩ ⟨oe rfl rfl,oe rfl rfl,oe rfl rfl,rfl⟩⟩
   refine eN 2 ?_;refine aG 1 rfl (dA ha) eL ⟨aB rfl,rfl⟩ (qF (.of p)) ?_;refine aG 3 rfl (dA hb) eL ⟨aB rfl,rfl⟩ (qF (.of q)) ?_;refine dst 4 ?_;refine dst 5 ?_
   refine aS ?_;exact⟨(),trivial,aO h0 [0,1,2] _ _ (by decide) ⟨rfl,rfl,rfl,rfl,trivial⟩ ⟨oe rfl rfl,oe rfl rfl,oe rfl rfl,rfl⟩⟩
  refine eN 2 ?_;refine WO.one (by kernel_rfl) (eN 0 ?_)
  refine aG 1 rfl (dA ha) eL ⟨aB rfl,rfl⟩ (qF (.of p)) ?_;refine aG 3 rfl (dA hb) eL ⟨aB rfl,rfl⟩ (qF (.of q)) ?_;refine dst 4 ?_;refine dst 5 ?_;refine aS ?_
  exact⟨(),trivial,aO h0 [0,1,2] _ _ (by decide) ⟨rfl,rfl,rfl,rfl,trivial⟩ ⟨oe rfl rfl,oe rfl rfl,oe rfl rfl,rfl⟩⟩
 refine sq ?_;refine rd [0,1,2] (fun i=>[13,14].contains i) mixed ?_
 refine dv 0 ?_;refine aU 1 ?_;refine dv 2 ?_;refine aU 3 ?_;refine dv 5 ?_;refine aU 6 ?_;refine dv 7 ?_;refine aU 8 ?_;have hn1:=cO (p.num) ((q.den:Int))
 refine aG 4 rfl (rI (eA hs) (cN hs')) sV ⟨aB rfl,aB rfl,rfl⟩ (kF ((p.num*(q.den:Int)))) ?_;have hn2:=cO ((p.den:Int)) (q.num)
 refine aG 9 rfl (rI (cN hs) (eA hs')) sV ⟨aB rfl,aB rfl,rfl⟩ (kF (((p.den:Int)*q.num))) ?_
 refine aG 10 rfl (Ps (Zn.of (k:=(p.num*(q.den:Int))) (by omega)) (Zn.of (k:=((p.den:Int)*q.num)) (by omega))) Xr ⟨aB rfl,aB rfl,rfl⟩ (.tup [qF (.of (Rat.divInt ((p.num*(q.den:Int))) (((p.den:Int)*q.num)))),.one (tv (.int .i64 (if(((p.den:Int)*q.num))=0 then 20 else 0)))]) ?_
 refine df 11 ?_;refine df 12 ?_;refine dst 13 ?_;refine cV 14 (by kernel_rfl) rfl rfl aA rfl (by trivial) ?_ (fun h=>by first | rfl | cases h)
 refine aS ?_;refine rt ?_
 exact en (.inl rfl) rfl (dE (.cons (.agg (.cons (.id rfl) (.cons (.id rfl) (.cons (.id rfl) (.cons (.id rfl) .nil))))) (.cons (aP _) .nil))) (by decide) (fun h=>by cases h) (by have e9:(if((p.den:Int)*q.num)=0 then(20:Int)else 0)=if q=0 then 20 else 0:=(by simp only[Hk]);rw[e9,Pb];rfl)
theorem PO {xs:List Fr4}{B:Nat}(hB:2+xs.length*(B+1)≤68719476736) (hx:∀x∈xs,x.ok) (hz:∀x∈xs,Sz B x.q) (hl:xs.length≤1073741823):aE false Tryz.prog 54 [] [.one (.t (sQ false xs))] (aM (qF (.of (lK (xs.map Fr4.q))))):=by
 refine bD Tryz.func54 rfl Tryz.ntmps54 rfl aA rfl fun N9 w9 c0 h0=>?_
 have h00:((0:Int):Rat)=lK ((xs.take 0).map Fr4.q):=by simp[lK]
 refine sq ?_;refine rl ?_;refine al 0 ?_;refine nl ?_;refine sq ?_;refine rl ?_;refine ca (cY (z:=0) (by omega) (by omega)) fY ⟨a1 rfl,rfl⟩ (qF (.of ((0:Int):Rat))) ?_
 refine al 1 ?_;refine st ?_;refine nl ?_;refine sq ?_;refine sq ?_;refine rl ?_;(iterate 3 refine o1 ?_);refine nl ?_;refine bl ?_
 refine lp (γ:=Nat) (fun k=>cD [(2,.one (.pt 0 0)),(3,.one (.pt 1 0)),(7,.one (.t (sQ false xs))),(8,.one (tv (.int .i64 ((xs.length:Nat):Int)))),(9,.one (tv (.int .i64 ((k:Nat):Int))))]) (fun k=>[(⟨27,0,[tv (.bool false),tv (.slice none 0 0),tv (.bool false),tv (.slice none 0 0)]⟩:Ob),⟨27,0,((Fr4.of (lK ((xs.take (k)).map Fr4.q))).tr false).map .t⟩].map some) (fun k=>k≤xs.length∧Sz (2+k*(B+1)) (lK ((xs.take (k)).map Fr4.q))) (fun k=>xs.length-k) 0 ⟨Nat.zero_le _,by simpa[lK]using bY (z:=0) (by omega) (by omega)⟩ (aO h0 [0,1] _ _ (by decide) ⟨rfl,rfl,rfl,rfl,rfl,trivial⟩ ⟨oe rfl rfl,cM (congrArg (fun q=>some (⟨27,0,((Fr4.of q).tr false).map .t⟩:Ob)) h00),rfl⟩) fun k hk=>?_
 have hmul:k*(B+1)≤xs.length*(B+1):=Nat.mul_le_mul hk.1 (Nat.le_refl _)
 refine sq ?_;refine rl ?_;refine o1 ?_;refine nl ?_;refine sq ?_;refine bN rfl (fun h1=>?_) (fun h1=>?_)
 ·refine sk ?_;refine sq ?_;refine bl ?_;refine sq ?_;refine rl ?_;refine o1 ?_;refine kD ((gQ xs (k)).tr false) (Gi xs (k:=k) (by omega)) ?_
  refine al 2 ?_;refine st ?_;refine nl ?_;have hmul2:(k+1)*(B+1)≤xs.length*(B+1):=Nat.mul_le_mul (by omega) (Nat.le_refl _)
  have hmul3:(k+1)*(B+1)=k*(B+1)+(B+1):=Nat.succ_mul k (B+1)
  refine rd [0,1,2] (fun i=>[4].contains i) mixed ?_
  refine aU 0 ?_;refine aU 1 ?_;refine aG 2 rfl (dA ⟨hx _ (hG (by omega)),rfl⟩) eL ⟨aB rfl,rfl⟩ (qF (.of (gQ xs (k)).q)) ?_
  refine aG 3 rfl (BH (hk.2.mono (by omega)) ((hz _ (hG (by omega))).mono (by omega))) Hg ⟨aB rfl,aB rfl,rfl⟩ (qF (.of ((lK ((xs.take (k)).map Fr4.q))+(gQ xs (k)).q))) ?_
  refine dst 4 ?_;refine aS ?_;refine rl ?_;refine o1 ?_;refine WL.cast (t:=17) (u':=.int .i64 ((k+1:Nat):Int)) rfl (aH (by omega)) ?_
  refine o1 ?_;refine nl ?_;have hst:(lK ((xs.take (k+1)).map Fr4.q))=(lK ((xs.take (k)).map Fr4.q))+(gQ xs (k)).q:=by rw[zE (by omega)];exact Sk _ _
  exact⟨k+1,by omega,⟨by omega,by rw[hst];exact(Hl hk.2 (hz _ (hG (by omega)))).mono (by omega)⟩,aO h0 [0,1] _ _ (by decide) ⟨rfl,rfl,rfl,rfl,rfl,trivial⟩ ⟨oe rfl rfl,cM (congrArg (fun q=>some (⟨27,0,((Fr4.of q).tr false).map .t⟩:Ob)) hst.symm),rfl⟩⟩
 refine ex ?_;refine sq ?_;refine rl ?_;refine ld ?_;refine st ?_;refine nl ?_;refine rt ?_
 exact en (.inl rfl) rfl (aV (.agg (.cons (.id rfl) (.cons (.id rfl) (.cons (.id rfl) (.cons (.id rfl) .nil)))))) (by decide) (fun h=>by cases h) (by rw[List.take_of_length_le (by omega)];rfl)
theorem ER {a:Fr4}{p:Rat}(ha:Qn a p):aE false Tryz.prog 167 [] [qF a] (aM (.tup [kO (p.num.fdiv (p.den:Int)),kO (p.num.fmod (p.den:Int)),.agg [tv (.bool false),.t (sU false (dg 4294967296 p.den))]])):=by
 refine TC Tryz.func167 rfl Tryz.ntmps167 rfl aA rfl fun N9 w9 c0 h0=>?_
 refine sq ?_;refine rl ?_;refine bx 0 ?_;refine al 1 ?_;refine al 2 ?_;refine al 3 ?_;refine nl ?_;refine sq ?_;refine sq ?_;refine rl ?_;refine ld ?_
 refine ca (Hi ha.1) Pp ⟨aB rfl,rfl⟩ (.one (tv (.bool (dC a.s a.x a.t a.y)))) ?_;refine WL.splitb (t:=6) rfl (fun h1=>?_) (fun h1=>?_)
 ·refine o1 ?_;refine nl ?_;refine fD rfl ?_;refine sk ?_;refine sq ?_;obtain rfl:=(ha.right h1).symm
  have hd0:(p.den:Int)≠0:=by have:=p.den_pos;omega
  refine rl ?_;refine o1 ?_;refine ld ?_;refine o1 ?_;refine ld ?_;refine gG 4 (oZ (eA ha.sz).g (cN ha.sz).g hd0) zM ⟨aB rfl,aB rfl,rfl⟩ ?_;(iterate 4 refine o1 ?_)
  refine st ?_;refine st ?_;refine nl ?_;refine sq ?_;refine rd [0,3] (fun i=>[6].contains i) mixed ?_
  refine dv 2 ?_;refine aU 3 ?_;refine WO.two (i:=0) (j:=1) (by kernel_rfl) ?_ ?_
  ·refine eN 0 ?_;refine WO.two (i:=1) (j:=4) (by kernel_rfl) ?_ ?_
   ·refine eN 1 ?_;refine aT 4 (by kernel_rfl) rfl rfl aA rfl rfl rfl rfl ⟨rfl,rfl,trivial⟩ ?_
    refine aT 5 (by kernel_rfl) rfl rfl aA rfl rfl rfl rfl ⟨rfl,rfl,trivial⟩ ?_
    refine dst 6 ?_;refine aS ?_;refine rt ?_
    exact Bv <| en (.inl rfl) rfl (gP (.cons (.agg (.cons (.id rfl) (.cons (.sl (trs:=aR (dg 4294967296 ((p.num.fdiv (p.den:Int))).natAbs)) rfl rfl (bG _) (aY _)) .nil))) (.cons (.agg (.cons (.id rfl) (.cons (.sl (trs:=aR (dg 4294967296 ((p.num.fmod (p.den:Int))).natAbs)) rfl rfl (bG _) (aY _)) .nil))) (.cons (.agg (.cons (.id rfl) (.cons (.id rfl) .nil))) .nil)))) (by simp) (fun h=>by cases h) rfl
   refine PM 4 rfl rfl aA rfl rfl rfl rfl ⟨rfl,rfl,trivial⟩ ?_;refine WO.one (by kernel_rfl) (eN 1 ?_)
   refine aT 5 (by kernel_rfl) rfl rfl aA rfl rfl rfl rfl ⟨rfl,rfl,trivial⟩ ?_
   refine dst 6 ?_;refine aS ?_;refine rt ?_
   exact Bv <| en (.inl rfl) rfl (gP (.cons (.agg (.cons (.id rfl) (.cons (.sl (trs:=aR (dg 4294967296 ((p.num.fdiv (p.den:Int))).natAbs)) rfl rfl (bG _) (aY _)) .nil))) (.cons (.agg (.cons (.id rfl) (.cons (.sl (trs:=aR (dg 4294967296 ((p.num.fmod (p.den:Int))).natAbs)) rfl rfl (bG _) (aY _)) .nil))) (.cons (.agg (.cons (.id rfl) (.cons (.id rfl) .nil))) .nil)))) (by simp) (fun h=>by cases h) rfl
  refine eN 1 ?_;refine WO.one (by kernel_rfl) (eN 0 ?_)
  refine aT 4 (by kernel_rfl) rfl rfl aA rfl rfl rfl rfl ⟨rfl,rfl,trivial⟩ ?_
  refine aT 5 (by kernel_rfl) rfl rfl aA rfl rfl rfl rfl ⟨rfl,rfl,trivial⟩ ?_
  refine dst 6 ?_;refine aS ?_;refine rt ?_
  exact Bv <| en (.inl rfl) rfl (gP (.cons (.agg (.cons (.id rfl) (.cons (.sl (trs:=aR (dg 4294967296 ((p.num.fdiv (p.den:Int))).natAbs)) rfl rfl (bG _) (aY _)) .nil))) (.cons (.agg (.cons (.id rfl) (.cons (.sl (trs:=aR (dg 4294967296 ((p.num.fmod (p.den:Int))).natAbs)) rfl rfl (bG _) (aY _)) .nil))) (.cons (.agg (.cons (.id rfl) (.cons (.id rfl) .nil))) .nil)))) (by simp) (fun h=>by cases h) rfl
 refine o1 ?_;refine nl ?_;refine fV rfl ?_;refine sq ?_;refine rl ?_;refine o1 ?_;refine o1 ?_;refine ca (xS (n:=1) (by omega) (by omega)) xT ⟨a1 rfl,rfl⟩ (kF 1) ?_
 (iterate 3 refine st ?_);refine nl ?_;refine rt ?_;have hq9:=ha.wrong h1
 subst hq9;refine SK (SL (j:=1) (key:=4) (e:=115) (z:=1) rfl rfl rfl (.id (.sl .nil))) ?_;refine SK (SL (j:=2) (key:=5) (e:=115) (z:=1) rfl rfl rfl (.id (.sl .nil))) ?_
 exact Bv <| en (.inl rfl) rfl (gP (.cons (.agg (.cons (.id rfl) (.cons (.sl (trs:=aR []) rfl rfl rfl rfl) .nil))) (.cons (.agg (.cons (.id rfl) (.cons (.sl (trs:=aR []) rfl rfl rfl rfl) .nil))) (.cons (.agg (.cons (.id rfl) (.cons (.id rfl) .nil))) .nil)))) (by simp) (fun h=>by cases h) rfl
def nG (a:Fr4):Bool:= !dC a.s a.x a.t a.y || decide (dD a.t a.y≠1)
theorem TD {a:Fr4}{p:Rat}(_:Qn a p) (h:dC a.s a.x a.t a.y=true):decide ((dD a.t a.y-1).sign≠0)=nG a:=by
 unfold nG
 rw[h]
 have e:((dD a.t a.y-1).sign=0)↔dD a.t a.y=1:=by rw[Int.sign_eq_zero_iff_zero];omega
 simp[e]
theorem Xs (p:Rat) (h:dC (Fr4.of p).s (Fr4.of p).x (Fr4.of p).t (Fr4.of p).y=true):nG (.of p)= !decide (p.den=1):=by
 unfold nG
 rw[h]
 have e:dD (Fr4.of p).t (Fr4.of p).y=(p.den:Int):=mK p.den
 rw[e]
 have e2:((p.den:Int)≠1)↔¬p.den=1:=by omega
 simp[e2]
theorem Pt {a:Fr4}{p:Rat}(ha:Qn a p):aE true Tryz.prog 108 [] [qF a] (aM (.one (tv (.bool (nG a))))):=by
 refine bD Tryz.func108 rfl Tryz.ntmps108 rfl aA rfl fun N9 w9 c0 h0=>?_
 refine sq ?_;refine rl ?_;refine bx 0 ?_;refine o1 ?_;refine nl ?_;refine sq ?_;refine rd [0] (fun i=>[10].contains i) mixed ?_
 refine aU 0 ?_;refine aG 1 rfl (Hi ha.1) Pp ⟨aB rfl,rfl⟩ (.one (tv (.bool (dC a.s a.x a.t a.y)))) ?_;refine WD.splitb (t:=4) rfl (fun h1=>?_) (fun h1=>?_)
 ·refine df 2 ?_;refine df 3 ?_;refine dv 4 ?_;refine aU 5 ?_;refine aG 6 rfl (xS (n:=1) (by omega) (by omega)) xT ⟨a1 rfl,rfl⟩ (kF 1) ?_
  refine aG 7 rfl (zR (sK ha) (Zn.of (k:=1) (by decide))) xR ⟨aB rfl,aB rfl,rfl⟩ (.one (tv (.int .i64 (dD a.t a.y-1).sign))) ?_
  refine df 8 ?_;refine df 9 ?_;refine cV 10 (by kernel_rfl) rfl rfl aA rfl (by trivial) ?_ (fun h=>by first | rfl | cases h)
  refine aS ?_;refine rt ?_;have hr9:=ha.right h1
  exact en (.inl rfl) rfl (aV (aP _)) (by decide) (fun _=>trivial) (congrArg (fun z=>FV.one (tv (.bool z))) (TD ha h1))
 refine df 2 ?_;refine df 3 ?_;refine bR 4 ?_;refine bR 5 ?_;refine bR 6 ?_;refine bR 7 ?_;refine bR 8 ?_;refine df 9 ?_
 refine cV 10 (by kernel_rfl) rfl rfl aA rfl (by trivial) ?_ (fun h=>by first | rfl | cases h)
 refine aS ?_;refine rt ?_;exact en (.inl rfl) rfl (aV (aP _)) (by decide) (fun _=>trivial) (congrArg (fun z=>FV.one (tv (.bool z))) (by unfold nG;rw[h1];rfl))
end Go.Proofs.YtcaakamelngceaaGreatDoor
