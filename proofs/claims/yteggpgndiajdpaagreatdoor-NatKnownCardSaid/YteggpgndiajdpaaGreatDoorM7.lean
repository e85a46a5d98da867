/- Part 7 of a proof: P0 to N5. -/
import Derived.Test.YteggpgndiajdpaaGreatDoorM6
import Derived.Test.YteggpgndiajdpaaGreatDoorM5
set_option maxRecDepth 100000
set_option linter.unusedVariables false
set_option linter.unusedSimpArgs false
namespace Go.Proofs.YteggpgndiajdpaaGreatDoor
open Go Go.RowKit
theorem Kd {l:List Nat}(h:decide (l=[])=false):0<l.length:=by
 cases l with
 | nil=>simp at h
 | cons _ _=>simp
theorem zQ {l:List Nat}{j:Nat}(h:(!decide (l.drop j=[]))=true):j<l.length:=by
 rcases Nat.lt_or_ge j l.length with h1 | h1
 ·exact h1
 rw[List.drop_of_length_le h1]at h;simp at h
theorem zR {l:List Nat}{j:Nat}(h:(!decide (l.drop j=[]))=false):l.length≤j:=by
 rcases Nat.lt_or_ge j l.length with h1 | h1
 ·have h2:=of_decide_eq_true (zB h)
  have h3:=congrArg List.length h2
  rw[List.length_drop,List.length_nil]at h3
  omega
 exact h1
theorem jF {l:List Nat}(hl:Lim 256 l) (hn:l.length≤9223372036854775807):aJ true Tryz.prog 9 [] [.one (tv (.string (aH l)))] (bC (.tup [.one (.t (sU true (dg 4294967296 (dK l)))),.one (tv (.int .i64 (eR l)))])):=by
 refine cR Tryz.func9 rfl Tryz.ntmps9 rfl aG rfl fun N9 w9 c0 h0=>?_
 refine sq ?_;refine rl ?_;refine o1 ?_;refine o1 ?_;refine nl ?_;refine sq ?_;refine bl ?_;refine sq ?_;refine sq ?_;refine rl ?_;refine o1 ?_;refine o1 ?_
 refine WL.cast (t:=10) (u':=.bool (decide (l=[]))) rfl (congrArg Value.bool (jT hl)) ?_;refine o1 ?_;refine nl ?_;refine nJ rfl (fun h1=>?_) (fun h1=>?_)
 ·refine sk ?_;refine gT (congrArg (fun b=>FV.one (tv (.bool b))) h1) ?_
  refine sq ?_;refine rl ?_;refine o1 ?_;refine o1 ?_;refine nl ?_;refine rt ?_;have he:=iY (Br h1)
  exact en (.inl rfl) rfl (fQ (.cons (.one (.nil (t:=22) (z:=1))) (.cons (cY _) .nil))) (by decide) (fun _=>⟨.inl ⟨rfl,trivial⟩,trivial,trivial⟩) (by rw[he,fX (by rw[he];decide)];rfl)
 refine sq ?_;have hp9:=Kd h1
 refine rl ?_;refine o1 ?_;refine o1 ?_
 refine WL.cast (t:=12) (u':=.bool (!decide (l=[48]))) rfl (congrArg Value.bool (congrArg not (Bb (l':=[48]) hl (Lim.cons (by omega) Lim.nil)))) ?_
 refine o1 ?_;refine WL.splitb (t:=13) rfl (fun h2=>?_) (fun h2=>?_)
 ·refine o1 ?_;refine o1 ?_ (hC:=(by rw[aP];show 0<l.length;omega))
  refine WL.cast (t:=15) (u':=.int .u8 (((nth l 0):Nat):Int)) rfl (congrArg (fun n:Nat=>Value.int .u8 (n:Int)) (iE (i:=0) (by omega) (jB hl (by omega)))) ?_
  (iterate 3 refine o1 ?_);refine nl ?_;refine bG rfl (fun h3=>?_) (fun h3=>?_)
  ·refine sk ?_;refine bG rfl (fun h4=>?_) (fun h4=>?_)
   ·refine sq ?_;refine rl ?_;refine o1 ?_;refine o1 ?_;refine nl ?_;refine rt ?_;have he:=iY (Bs (Hz h2) (by omega))
    exact en (.inl rfl) rfl (fQ (.cons (.one (.nil (t:=22) (z:=1))) (.cons (cY _) .nil))) (by decide) (fun _=>⟨.inl ⟨rfl,trivial⟩,trivial,trivial⟩) (by rw[he,fX (by rw[he];decide)];rfl)
   omega
  refine rl ?_;refine o1 ?_;refine ca (wZ hn) Mn ⟨a1 rfl,a1 rfl,rfl⟩ (.one (tv (.string ⟨(Lib.trimS (aH l).data.toList [48,49,50,51,52,53,54,55,56,57]).toArray⟩))) ?_
  refine o1 ?_;refine WL.cast (t:=20) (u':=.bool (!jX l)) rfl (congrArg Value.bool (congrArg not (zN hl))) ?_;refine o1 ?_;refine nl ?_;refine nJ rfl (fun h5=>?_) (fun h5=>?_)
  ·refine sq ?_;refine rl ?_;refine o1 ?_;refine o1 ?_;refine nl ?_;refine rt ?_;have he:=iY (rF (Hz h5))
   exact en (.inl rfl) rfl (fQ (.cons (.one (.nil (t:=22) (z:=1))) (.cons (cY _) .nil))) (by decide) (fun _=>⟨.inl ⟨rfl,trivial⟩,trivial,trivial⟩) (by rw[he,fX (by rw[he];decide)];rfl)
  refine sq ?_;have hg:=oE h1 (.inr (by omega)) (zB h5)
  have hdg:=rG hg
  refine rl ?_;refine o1 ?_;refine o1 ?_;refine WL.cast (t:=23) (u':=.int .i64 ((l.length:Nat):Int)) rfl (congrArg (fun n:Nat=>Value.int .i64 (n:Int)) (aP _)) ?_
  refine o1 ?_;refine o1 ?_;refine nl ?_;refine bG rfl (fun h6=>?_) (fun h6=>?_)
  ·refine sq ?_;refine rl ?_;refine o1 ?_;refine o1 ?_;refine nl ?_;refine rt ?_;have he:=Gu hg (by omega)
   exact en (.inl rfl) rfl (fQ (.cons (.one (.nil (t:=22) (z:=1))) (.cons (cY _) .nil))) (by decide) (fun _=>⟨.inl ⟨rfl,trivial⟩,trivial,trivial⟩) (by rw[he,fX (by rw[he];decide)];rfl)
  refine sk ?_;refine sq ?_;refine rl ?_;refine o1 ?_;refine nl ?_;refine sq ?_;refine sq ?_;refine rl ?_;refine o1 ?_;refine o1 ?_
  refine WL.cast (t:=26) (u':=.int .i64 ((l.length:Nat):Int)) rfl (congrArg (fun n:Nat=>Value.int .i64 (n:Int)) (aP _)) ?_
  refine o1 ?_;refine WL.cast (t:=27) (u':=.int .i64 ((l.length%9:Nat):Int)) rfl (aD (eO _ 9)) ?_;refine o1 ?_;refine nl ?_;refine bl ?_
  refine lp (γ:=Nat×Nat) (fun s=>bO [(0,.one (tv (.string (aH (l.drop s.1))))),(4,.one (.sl 0 0 ((dg 4294967296 (aW (l.take s.1))).length))),(5,.one (tv (.int .i64 ((s.2:Nat):Int))))]) (fun s=>[(⟨22,1,(aB (dg 4294967296 (aW (l.take s.1)))).map .t⟩:Ob)].map some) (fun s=>s.1≤l.length∧(s.1=0∧s.2=l.length%9∨0<s.1∧s.2=9∧(l.length-s.1)%9=0)) (fun s=>l.length-s.1) (0,l.length%9) ⟨Nat.zero_le _,.inl ⟨rfl,rfl⟩⟩ ((nr (i:=4) 0 22 1 rfl rfl rfl rfl).trans (aZ h0 [0] _ _ (by decide) ⟨rfl,rfl,rfl,trivial⟩ ⟨cG (l:=[]) rfl,rfl⟩)) ?_
  rintro⟨j,f⟩ ⟨hj,hf⟩;dsimp only at hj hf⊢;refine sq ?_;refine sq ?_;refine rl ?_;refine o1 ?_;refine o1 ?_
  refine WL.cast (t:=29) (u':=.bool (!decide (l.drop j=[]))) rfl (congrArg Value.bool (congrArg not (jT (qA hl j)))) ?_;refine nl ?_
  refine nJ rfl (fun h7=>?_) (fun h7=>?_)
  ·refine sk ?_;refine sq ?_;refine bl ?_;refine sq ?_;refine sq ?_;have hjl:=zQ h7
   refine rl ?_;refine o1 ?_;refine o1 ?_;refine nl ?_;refine bG rfl (fun h8=>?_) (fun h8=>?_)
   ·refine rl ?_;refine o1 ?_;refine nl ?_;refine sq ?_;refine rl ?_;refine o1 ?_;refine o1 ?_;refine o1 ?_ (hC:=(by rw[aP,List.length_drop];show 9≤l.length-j;omega))
    refine WL.cast (t:=35) (u':=.string (aH ((l.drop j).take 9))) rfl (congrArg Value.string ((lL _ 0 _).trans rfl)) ?_
    refine ca (rD (l:=((l.drop j).take 9)) (mQ hdg j 9) (by rw[List.length_take,List.length_drop];omega) (by rw[List.length_take];omega)) Aw ⟨a1 rfl,rfl⟩ (.tup [.one (tv (.int .i64 ((aW ((l.drop j).take 9):Nat):Int))),.one (tv .nilIface)]) ?_
    (iterate 5 refine o1 ?_);refine nl ?_;refine sq ?_;have hpl:=mR hdg (j:=j) (f:=9) (by omega) (by omega)
    have hpc:=kP (l:=l) (j:=j) (f:=9) (by omega) (by omega)
    have hl1:=lS hdg hj
    have hl2:=dH (aW (l.take j)) 1000000000
    have hl3:(dg 4294967296 1000000000).length≤1:=aF (by omega) (by decide)
    refine rl ?_;refine o1 ?_
    refine ca (rH (u:=aW (l.take j)) (m:=1000000000) (by omega) (by omega)) wE ⟨cH rfl (.sl rfl rfl (fV _) (dD _)),a1 rfl,rfl⟩ (.one (.t (sU false (dg 4294967296 (aW (l.take j)*1000000000))))) ?_
    refine o1 ?_;refine o1 ?_;refine WL.cast (t:=42) (u':=.int .u32 ((aW ((l.drop j).take 9):Nat):Int)) rfl (aD (by omega)) ?_
    refine bs 1 ?_
    refine pF 2 (rI (u:=aW (l.take j)*1000000000) (x:=aW ((l.drop j).take 9)) (by omega) (by omega)) mL ⟨a1 rfl,cH rfl (.sl (trs:=aB [aW ((l.drop j).take 9)]) rfl rfl rfl rfl),rfl⟩ ?_
    refine o1 ?_;refine nl ?_;refine rl ?_;refine o1 ?_;refine o1 ?_;refine o1 ?_ (hC:=(by rw[aP,List.length_drop];show 9≤l.length-j;omega))
    refine WL.cast (t:=47) (u':=.string (aH ((l.drop j).drop 9))) rfl (congrArg Value.string (lN _ _)) ?_;refine o1 ?_;refine nl ?_;refine rl ?_;refine o1 ?_;refine nl ?_
    exact⟨(j+9,9),by dsimp only;omega,⟨by dsimp only;omega,.inr ⟨by dsimp only;omega,rfl,by dsimp only;omega⟩⟩,aZ h0 [2] _ _ (by decide) ⟨(congrArg (fun l:List Nat=>some (FV.one (tv (.string (aH l))))) (by rw[List.drop_drop])),(congrArg (fun z:Nat=>some (FV.one (.sl 2 0 (dg 4294967296 z).length))) hpc.symm),rfl,trivial⟩ ⟨cG (congrArg (fun z:Nat=>some (⟨22,1,(aB (dg 4294967296 z)).map .t⟩:Ob)) hpc),rfl⟩⟩
   refine sk ?_;refine sq ?_;refine rl ?_;refine o1 ?_;refine o1 ?_;refine o1 ?_ (hC:=(by rw[aP,List.length_drop];show f≤l.length-j;omega))
   refine WL.cast (t:=35) (u':=.string (aH ((l.drop j).take f))) rfl (congrArg Value.string ((lL _ 0 _).trans rfl)) ?_
   refine ca (rD (l:=((l.drop j).take f)) (mQ hdg j f) (by rw[List.length_take,List.length_drop];omega) (by rw[List.length_take];omega)) Aw ⟨a1 rfl,rfl⟩ (.tup [.one (tv (.int .i64 ((aW ((l.drop j).take f):Nat):Int))),.one (tv .nilIface)]) ?_
   (iterate 5 refine o1 ?_);refine nl ?_;refine sq ?_;have hpl:=mR hdg (j:=j) (f:=f) (by omega) (by omega)
   have hpc:=kP (l:=l) (j:=j) (f:=f) (by omega) (by omega)
   have hl1:=lS hdg hj
   have hl2:=dH (aW (l.take j)) 1000000000
   have hl3:(dg 4294967296 1000000000).length≤1:=aF (by omega) (by decide)
   refine rl ?_;refine o1 ?_
   refine ca (rH (u:=aW (l.take j)) (m:=1000000000) (by omega) (by omega)) wE ⟨cH rfl (.sl rfl rfl (fV _) (dD _)),a1 rfl,rfl⟩ (.one (.t (sU false (dg 4294967296 (aW (l.take j)*1000000000))))) ?_
   refine o1 ?_;refine o1 ?_;refine WL.cast (t:=42) (u':=.int .u32 ((aW ((l.drop j).take f):Nat):Int)) rfl (aD (by omega)) ?_
   refine bs 1 ?_
   refine pF 2 (rI (u:=aW (l.take j)*1000000000) (x:=aW ((l.drop j).take f)) (by omega) (by omega)) mL ⟨a1 rfl,cH rfl (.sl (trs:=aB [aW ((l.drop j).take f)]) rfl rfl rfl rfl),rfl⟩ ?_
   refine o1 ?_;refine nl ?_;refine rl ?_;refine o1 ?_;refine o1 ?_;refine o1 ?_ (hC:=(by rw[aP,List.length_drop];show f≤l.length-j;omega))
   refine WL.cast (t:=47) (u':=.string (aH ((l.drop j).drop f))) rfl (congrArg Value.string (lN _ _)) ?_;refine o1 ?_;refine nl ?_;refine rl ?_;refine o1 ?_;refine nl ?_
   exact⟨(j+f,9),by dsimp only;omega,⟨by dsimp only;omega,.inr ⟨by dsimp only;omega,rfl,by dsimp only;omega⟩⟩,aZ h0 [2] _ _ (by decide) ⟨(congrArg (fun l:List Nat=>some (FV.one (tv (.string (aH l))))) (by rw[List.drop_drop])),(congrArg (fun z:Nat=>some (FV.one (.sl 2 0 (dg 4294967296 z).length))) hpc.symm),rfl,trivial⟩ ⟨cG (congrArg (fun z:Nat=>some (⟨22,1,(aB (dg 4294967296 z)).map .t⟩:Ob)) hpc),rfl⟩⟩
  refine ex ?_;refine sq ?_;refine rl ?_;(iterate 3 refine o1 ?_);refine nl ?_;refine rt ?_;have hjl:=zR h7
  have he:=xD hg (by omega)
  exact en (.inl rfl) rfl (fQ (.cons (.one (.sl (trs:=aB (dg 4294967296 (aW (l.take j)))) rfl rfl (jW _) (dD _))) (.cons (cY _) .nil))) (by decide) (fun _=>⟨.inl ⟨rfl,gF _⟩,trivial,trivial⟩) (by rw[he,oW he,List.take_of_length_le hjl];rfl)
 (iterate 3 refine dC ?_);refine o1 ?_;refine o1 ?_;refine nl ?_;refine fU rfl ?_;refine rl ?_;refine o1 ?_
 refine ca (wZ hn) Mn ⟨a1 rfl,a1 rfl,rfl⟩ (.one (tv (.string ⟨(Lib.trimS (aH l).data.toList [48,49,50,51,52,53,54,55,56,57]).toArray⟩))) ?_;refine o1 ?_
 refine WL.cast (t:=20) (u':=.bool (!jX l)) rfl (congrArg Value.bool (congrArg not (zN hl))) ?_;refine o1 ?_;refine nl ?_;refine nJ rfl (fun h9=>?_) (fun h9=>?_)
 ·refine sq ?_;refine rl ?_;refine o1 ?_;refine o1 ?_;refine nl ?_;refine rt ?_;have he:=iY (rF (Hz h9))
  exact en (.inl rfl) rfl (fQ (.cons (.one (.nil (t:=22) (z:=1))) (.cons (cY _) .nil))) (by decide) (fun _=>⟨.inl ⟨rfl,trivial⟩,trivial,trivial⟩) (by rw[he,fX (by rw[he];decide)];rfl)
 refine sq ?_;have hg:=oE h1 (.inl (zB h2)) (zB h9)
 have hdg:=rG hg
 refine rl ?_;refine o1 ?_;refine o1 ?_;refine WL.cast (t:=23) (u':=.int .i64 ((l.length:Nat):Int)) rfl (congrArg (fun n:Nat=>Value.int .i64 (n:Int)) (aP _)) ?_
 refine o1 ?_;refine o1 ?_;refine nl ?_;refine bG rfl (fun h10=>?_) (fun h10=>?_)
 ·refine sq ?_;refine rl ?_;refine o1 ?_;refine o1 ?_;refine nl ?_;refine rt ?_;have he:=Gu hg (by omega)
  exact en (.inl rfl) rfl (fQ (.cons (.one (.nil (t:=22) (z:=1))) (.cons (cY _) .nil))) (by decide) (fun _=>⟨.inl ⟨rfl,trivial⟩,trivial,trivial⟩) (by rw[he,fX (by rw[he];decide)];rfl)
 refine sk ?_;refine sq ?_;refine rl ?_;refine o1 ?_;refine nl ?_;refine sq ?_;refine sq ?_;refine rl ?_;refine o1 ?_;refine o1 ?_
 refine WL.cast (t:=26) (u':=.int .i64 ((l.length:Nat):Int)) rfl (congrArg (fun n:Nat=>Value.int .i64 (n:Int)) (aP _)) ?_
 refine o1 ?_;refine WL.cast (t:=27) (u':=.int .i64 ((l.length%9:Nat):Int)) rfl (aD (eO _ 9)) ?_;refine o1 ?_;refine nl ?_;refine bl ?_
 refine lp (γ:=Nat×Nat) (fun s=>bO [(0,.one (tv (.string (aH (l.drop s.1))))),(4,.one (.sl 0 0 ((dg 4294967296 (aW (l.take s.1))).length))),(5,.one (tv (.int .i64 ((s.2:Nat):Int))))]) (fun s=>[(⟨22,1,(aB (dg 4294967296 (aW (l.take s.1)))).map .t⟩:Ob)].map some) (fun s=>s.1≤l.length∧(s.1=0∧s.2=l.length%9∨0<s.1∧s.2=9∧(l.length-s.1)%9=0)) (fun s=>l.length-s.1) (0,l.length%9) ⟨Nat.zero_le _,.inl ⟨rfl,rfl⟩⟩ ((nr (i:=4) 0 22 1 rfl rfl rfl rfl).trans (aZ h0 [0] _ _ (by decide) ⟨rfl,rfl,rfl,trivial⟩ ⟨cG (l:=[]) rfl,rfl⟩)) ?_
 rintro⟨j,f⟩ ⟨hj,hf⟩;dsimp only at hj hf⊢;refine sq ?_;refine sq ?_;refine rl ?_;refine o1 ?_;refine o1 ?_
 refine WL.cast (t:=29) (u':=.bool (!decide (l.drop j=[]))) rfl (congrArg Value.bool (congrArg not (jT (qA hl j)))) ?_;refine nl ?_
 refine nJ rfl (fun h11=>?_) (fun h11=>?_)
 ·refine sk ?_;refine sq ?_;refine bl ?_;refine sq ?_;refine sq ?_;have hjl:=zQ h11
  refine rl ?_;refine o1 ?_;refine o1 ?_;refine nl ?_;refine bG rfl (fun h12=>?_) (fun h12=>?_)
  ·refine rl ?_;refine o1 ?_;refine nl ?_;refine sq ?_;refine rl ?_;refine o1 ?_;refine o1 ?_;refine o1 ?_ (hC:=(by rw[aP,List.length_drop];show 9≤l.length-j;omega))
   refine WL.cast (t:=35) (u':=.string (aH ((l.drop j).take 9))) rfl (congrArg Value.string ((lL _ 0 _).trans rfl)) ?_
   refine ca (rD (l:=((l.drop j).take 9)) (mQ hdg j 9) (by rw[List.length_take,List.length_drop];omega) (by rw[List.length_take];omega)) Aw ⟨a1 rfl,rfl⟩ (.tup [.one (tv (.int .i64 ((aW ((l.drop j).take 9):Nat):Int))),.one (tv .nilIface)]) ?_
   (iterate 5 refine o1 ?_);refine nl ?_;refine sq ?_;have hpl:=mR hdg (j:=j) (f:=9) (by omega) (by omega)
   have hpc:=kP (l:=l) (j:=j) (f:=9) (by omega) (by omega)
   have hl1:=lS hdg hj
   have hl2:=dH (aW (l.take j)) 1000000000
   have hl3:(dg 4294967296 1000000000).length≤1:=aF (by omega) (by decide)
   refine rl ?_;refine o1 ?_
   refine ca (rH (u:=aW (l.take j)) (m:=1000000000) (by omega) (by omega)) wE ⟨cH rfl (.sl rfl rfl (fV _) (dD _)),a1 rfl,rfl⟩ (.one (.t (sU false (dg 4294967296 (aW (l.take j)*1000000000))))) ?_
   refine o1 ?_;refine o1 ?_;refine WL.cast (t:=42) (u':=.int .u32 ((aW ((l.drop j).take 9):Nat):Int)) rfl (aD (by omega)) ?_
   refine bs 1 ?_
   refine pF 2 (rI (u:=aW (l.take j)*1000000000) (x:=aW ((l.drop j).take 9)) (by omega) (by omega)) mL ⟨a1 rfl,cH rfl (.sl (trs:=aB [aW ((l.drop j).take 9)]) rfl rfl rfl rfl),rfl⟩ ?_
   refine o1 ?_;refine nl ?_;refine rl ?_;refine o1 ?_;refine o1 ?_;refine o1 ?_ (hC:=(by rw[aP,List.length_drop];show 9≤l.length-j;omega))
   refine WL.cast (t:=47) (u':=.string (aH ((l.drop j).drop 9))) rfl (congrArg Value.string (lN _ _)) ?_;refine o1 ?_;refine nl ?_;refine rl ?_;refine o1 ?_;refine nl ?_
   exact⟨(j+9,9),by dsimp only;omega,⟨by dsimp only;omega,.inr ⟨by dsimp only;omega,rfl,by dsimp only;omega⟩⟩,aZ h0 [2] _ _ (by decide) ⟨(congrArg (fun l:List Nat=>some (FV.one (tv (.string (aH l))))) (by rw[List.drop_drop])),(congrArg (fun z:Nat=>some (FV.one (.sl 2 0 (dg 4294967296 z).length))) hpc.symm),rfl,trivial⟩ ⟨cG (congrArg (fun z:Nat=>some (⟨22,1,(aB (dg 4294967296 z)).map .t⟩:Ob)) hpc),rfl⟩⟩
  refine sk ?_;refine sq ?_;refine rl ?_;refine o1 ?_;refine o1 ?_;refine o1 ?_ (hC:=(by rw[aP,List.length_drop];show f≤l.length-j;omega))
  refine WL.cast (t:=35) (u':=.string (aH ((l.drop j).take f))) rfl (congrArg Value.string ((lL _ 0 _).trans rfl)) ?_
  refine ca (rD (l:=((l.drop j).take f)) (mQ hdg j f) (by rw[List.length_take,List.length_drop];omega) (by rw[List.length_take];omega)) Aw ⟨a1 rfl,rfl⟩ (.tup [.one (tv (.int .i64 ((aW ((l.drop j).take f):Nat):Int))),.one (tv .nilIface)]) ?_
  (iterate 5 refine o1 ?_);refine nl ?_;refine sq ?_;have hpl:=mR hdg (j:=j) (f:=f) (by omega) (by omega)
  have hpc:=kP (l:=l) (j:=j) (f:=f) (by omega) (by omega)
  have hl1:=lS hdg hj
  have hl2:=dH (aW (l.take j)) 1000000000
  have hl3:(dg 4294967296 1000000000).length≤1:=aF (by omega) (by decide)
  refine rl ?_;refine o1 ?_
  refine ca (rH (u:=aW (l.take j)) (m:=1000000000) (by omega) (by omega)) wE ⟨cH rfl (.sl rfl rfl (fV _) (dD _)),a1 rfl,rfl⟩ (.one (.t (sU false (dg 4294967296 (aW (l.take j)*1000000000))))) ?_
  refine o1 ?_;refine o1 ?_;refine WL.cast (t:=42) (u':=.int .u32 ((aW ((l.drop j).take f):Nat):Int)) rfl (aD (by omega)) ?_
  refine bs 1 ?_
  refine pF 2 (rI (u:=aW (l.take j)*1000000000) (x:=aW ((l.drop j).take f)) (by omega) (by omega)) mL ⟨a1 rfl,cH rfl (.sl (trs:=aB [aW ((l.drop j).take f)]) rfl rfl rfl rfl),rfl⟩ ?_
  refine o1 ?_;refine nl ?_;refine rl ?_;refine o1 ?_;refine o1 ?_;refine o1 ?_ (hC:=(by rw[aP,List.length_drop];show f≤l.length-j;omega))
  refine WL.cast (t:=47) (u':=.string (aH ((l.drop j).drop f))) rfl (congrArg Value.string (lN _ _)) ?_;refine o1 ?_;refine nl ?_;refine rl ?_;refine o1 ?_;refine nl ?_
  exact⟨(j+f,9),by dsimp only;omega,⟨by dsimp only;omega,.inr ⟨by dsimp only;omega,rfl,by dsimp only;omega⟩⟩,aZ h0 [2] _ _ (by decide) ⟨(congrArg (fun l:List Nat=>some (FV.one (tv (.string (aH l))))) (by rw[List.drop_drop])),(congrArg (fun z:Nat=>some (FV.one (.sl 2 0 (dg 4294967296 z).length))) hpc.symm),rfl,trivial⟩ ⟨cG (congrArg (fun z:Nat=>some (⟨22,1,(aB (dg 4294967296 z)).map .t⟩:Ob)) hpc),rfl⟩⟩
 refine ex ?_;refine sq ?_;refine rl ?_;(iterate 3 refine o1 ?_);refine nl ?_;refine rt ?_;have hjl:=zR h11
 have he:=xD hg (by omega)
 exact en (.inl rfl) rfl (fQ (.cons (.one (.sl (trs:=aB (dg 4294967296 (aW (l.take j)))) rfl rfl (jW _) (dD _))) (.cons (cY _) .nil))) (by decide) (fun _=>⟨.inl ⟨rfl,gF _⟩,trivial,trivial⟩) (by rw[he,oW he,List.take_of_length_le hjl];rfl)
theorem Sv:CallOk Tryz.prog 98:=.mk Tryz.func98 (by decide) rfl
theorem tB {l R:List Nat}{c:Nat}(hl:Lim 256 l) (hR:l.dropWhile (· ==c)=R):aJ true Tryz.prog 98 [] [.one (tv (.string (aH l))),.one (tv (.int .u8 ((c:Nat):Int)))] (bC (.one (tv (.string (aH R))))):=by
 refine cR Tryz.func98 rfl Tryz.ntmps98 rfl aG rfl fun N9 w9 c0 h0=>?_
 refine sq ?_;refine rl ?_;refine o1 ?_;refine nl ?_;refine sq ?_;refine bl ?_
 refine lp (γ:=List Nat) (fun l=>bO [(0,.one (tv (.string (aH l)))),(1,.one (tv (.int .u8 ((c:Nat):Int))))]) (fun _=>([]:List Ob).map some) (fun l=>Lim 256 l∧l.dropWhile (· ==c)=R) (fun l=>l.length) l ⟨hl,hR⟩ (aZ h0 [] _ _ (by decide) ⟨rfl,rfl,trivial⟩ rfl) fun k hk=>?_
 refine sq ?_;refine sq ?_;refine rl ?_;refine o1 ?_;refine o1 ?_
 refine WL.cast (t:=6) (u':=.int .i64 ((k.length:Nat):Int)) rfl (congrArg (fun n:Nat=>Value.int .i64 (n:Int)) (aP _)) ?_
 refine o1 ?_;refine o1 ?_;refine WL.split (t:=8) rfl (fun h1=>?_) (fun h1=>?_)
 ·refine o1 ?_;refine o1 ?_ (hC:=(by rw[aP];show 0<k.length;omega))
  refine WL.cast (t:=10) (u':=.int .u8 (((nth k 0):Nat):Int)) rfl (congrArg (fun n:Nat=>Value.int .u8 (n:Int)) (iE (i:=0) (by omega) (jB (k:=0) hk.1 (by omega)))) ?_
  (iterate 3 refine o1 ?_);refine nl ?_;refine bG rfl (fun h2=>?_) (fun h2=>?_)
  ·refine sk ?_;refine bl ?_;refine rl ?_;refine o1 ?_;refine o1 ?_ (hC:=(by rw[aP];show 1≤k.length;omega))
   refine WL.cast (t:=15) (u':=.string (aH (k.drop 1))) rfl (congrArg Value.string (lN _ _)) ?_;refine o1 ?_;refine nl ?_
   exact⟨k.drop 1,by rw[List.length_drop];omega,⟨qA hk.1 1,(Dm (by omega) (by omega)).trans hk.2⟩,aZ h0 [] _ _ (by decide) ⟨rfl,rfl,trivial⟩ rfl⟩
  refine ex ?_;refine sq ?_;refine rl ?_;refine o1 ?_;refine o1 ?_;refine nl ?_;refine rt ?_
  exact en (.inl rfl) rfl (eA (cY _)) (by decide) (fun _=>trivial) (congrArg (fun z=>FV.one (tv (.string z))) (congrArg aH ((Bg (by omega) (by omega)).trans hk.2)))
 (iterate 4 refine dC ?_);refine o1 ?_;refine nl ?_;refine fU rfl ?_;refine ex ?_;refine sq ?_;refine rl ?_;refine o1 ?_;refine o1 ?_;refine nl ?_;refine rt ?_
 exact en (.inl rfl) rfl (eA (cY _)) (by decide) (fun _=>trivial) (congrArg (fun z=>FV.one (tv (.string z))) (congrArg aH ((Bf (by omega)).trans hk.2)))
theorem Bt {l:List Nat}(hl:Lim 256 l):aJ true Tryz.prog 59 [] [.one (tv (.string (aH l))),.one (tv (.string ⟨#[48]⟩))] (bC (.one (tv (.string (aH (l.dropWhile (· ==48))))))):=by
 refine cR Tryz.func59 rfl Tryz.ntmps59 rfl aG rfl fun N9 w9 c0 h0=>?_
 refine sq ?_;refine rl ?_;refine o1 ?_;refine nl ?_;refine sq ?_;refine sq ?_;refine rl ?_;refine o1 ?_;refine o1 ?_
 refine WL.cast (t:=8) (u':=.bool (decide (l=[]))) rfl (congrArg Value.bool (jT hl)) ?_;refine o1 ?_;refine WL.splitb (t:=9) rfl (fun h1=>?_) (fun h1=>?_)
 ·refine dC ?_;refine dC ?_;refine o1 ?_;refine nl ?_;refine gT rfl ?_;refine sq ?_;refine rl ?_;refine o1 ?_;refine o1 ?_;refine nl ?_;refine rt ?_
  exact en (.inl rfl) rfl (eA (cY _)) (by decide) (fun _=>trivial) (congrArg (fun z=>FV.one (tv (.string z))) (congrArg aH (by rw[of_decide_eq_true h1];rfl)))
 refine o1 ?_;refine o1 ?_;refine WL.cast (t:=11) (u':=.bool false) rfl (congrArg Value.bool (jT (l:=[48]) (Lim.cons (by omega) Lim.nil))) ?_
 refine o1 ?_;refine nl ?_;refine fU rfl ?_;refine sk ?_;refine sq ?_;refine sq ?_;refine rl ?_;(iterate 3 refine o1 ?_)
 refine WL.cast (t:=16) (u':=.bool true) rfl (congrArg Value.bool rfl) ?_;refine o1 ?_;refine o1 ?_;refine o1 ?_ (hC:=(by decide))
 refine o1 ?_;refine WL.cast (t:=20) (u':=.bool true) rfl (congrArg Value.bool rfl) ?_;refine o1 ?_;refine nl ?_;refine gT rfl ?_;refine sq ?_;refine rl ?_;refine o1 ?_;refine o1 ?_
 refine o1 ?_ (hC:=(by decide))
 refine WL.cast (t:=24) (u':=.int .u8 ((48:Nat):Int)) rfl rfl ?_
 refine ca (tB (c:=48) hl rfl) Sv ⟨a1 rfl,a1 rfl,rfl⟩ (.one (tv (.string (aH (l.dropWhile (· ==48)))))) ?_;refine o1 ?_;refine nl ?_;refine rt ?_
 exact en (.inl rfl) rfl (eA (cY _)) (by decide) (fun _=>trivial) (congrArg (fun z=>FV.one (tv (.string z))) (rfl))
theorem Ek {t n:Nat}{xs:List Nat}(hn:xs.length=n) (hn2:n≤100000000):aJ false Tryz.prog 58 [⟨t,1,(aV xs).map .t⟩] [.one (.sl 0 0 n)] (Rt [⟨t,1,(aV xs.reverse).map .t⟩] (.tup [])):=by
 subst hn;refine Rc Tryz.func58 rfl Tryz.ntmps58 rfl aG rfl fun N9 M9 w9 c0 h0=>?_
 refine sq ?_;refine rl ?_;(iterate 5 refine o1 ?_);refine nl ?_;refine bl ?_
 refine lp (γ:=Nat) (fun k=>bO [(0,.one (.sl 0 0 xs.length)),(2,.one (tv (.int .i64 ((k:Nat):Int)))),(3,.one (tv (.int .i64 ((xs.length:Int)-1-(k:Int):Int))))]) (fun k=>[(⟨t,1,(aV (dG xs k)).map .t⟩:Ob)].map some) (fun k=>2*k≤xs.length+1) (fun k=>xs.length-k) 0 (by omega) (Dh h0 [0] _ _ (by decide) rfl ⟨rfl,rfl,nY (by omega),trivial⟩ ⟨cG (congrArg (fun l=>some (⟨t,1,(aV l).map .t⟩:Ob)) (Qe xs)),rfl⟩) fun k hk=>?_
 have hrl:=fO xs k
 refine sq ?_;refine sq ?_;refine rl ?_;(iterate 3 refine o1 ?_);refine nl ?_;refine bG rfl (fun h1=>?_) (fun h1=>?_)
 ·refine sk ?_;refine sq ?_;refine bl ?_;refine rd [] (fun i=>[15].contains i) mixed ?_
  refine dv 0 ?_;refine dv 1 ?_;refine dv 2 ?_;refine dv 3 ?_;refine WD.cast (t:=17) (u':=.int .i64 (((xs.length-1-k):Nat):Int)) rfl (aD (by omega)) ?_
  refine dv 4 ?_;refine dv 5 ?_;refine WD.cast (t:=19) (u':=.int .i64 (((xs.length-1-k):Nat):Int)) rfl (aD (by omega)) ?_
  refine dv 6 ?_;refine dv 8 ?_;refine dv 9 ?_;refine dv 10 ?_;refine WO.two (i:=7) (j:=11) (by kernel_rfl) ?_ ?_
  ·refine Bd 7 (uR (dG xs k) (k:=(xs.length-1-k)) (by omega)) ?_
   refine WO.one (by kernel_rfl) (Bd 11 (uR (dG xs k) (k:=k) (by omega)) ?_)
   refine dv 12 ?_;refine Hw 13 (nX (dG xs k) (k:=k) (v:=nth (dG xs k) ((xs.length-1-k))) (by omega)) (qT (dG xs k) (by omega)) ?_
   refine dv 14 ?_
   refine Az 15 (nX ((dG xs k).set (k) (nth (dG xs k) ((xs.length-1-k)))) (k:=(xs.length-1-k)) (v:=nth (dG xs k) (k)) (by simp only[List.length_set];omega)) (qT ((dG xs k).set (k) (nth (dG xs k) ((xs.length-1-k)))) (by simp only[List.length_set];omega)) ?_
   refine mY ?_;refine rl ?_;refine o1 ?_;refine o1 ?_;refine WL.cast (t:=11) (u':=.int .i64 ((k+1:Nat):Int)) rfl (aD (by omega)) ?_
   (iterate 4 refine o1 ?_);refine nl ?_
   exact⟨k+1,by omega,by omega,Dh h0 [0] _ _ (by decide) rfl ⟨rfl,rfl,nY (by omega),trivial⟩ ⟨cG (congrArg (fun l=>some (⟨t,1,(aV l).map .t⟩:Ob)) (Ia (by omega))),rfl⟩⟩
  refine Bd 11 (uR (dG xs k) (k:=k) (by omega)) ?_
  refine WO.one (by kernel_rfl) (Bd 7 (uR (dG xs k) (k:=(xs.length-1-k)) (by omega)) ?_)
  refine dv 12 ?_;refine Hw 13 (nX (dG xs k) (k:=k) (v:=nth (dG xs k) ((xs.length-1-k))) (by omega)) (qT (dG xs k) (by omega)) ?_
  refine dv 14 ?_
  refine Az 15 (nX ((dG xs k).set (k) (nth (dG xs k) ((xs.length-1-k)))) (k:=(xs.length-1-k)) (v:=nth (dG xs k) (k)) (by simp only[List.length_set];omega)) (qT ((dG xs k).set (k) (nth (dG xs k) ((xs.length-1-k)))) (by simp only[List.length_set];omega)) ?_
  refine mY ?_;refine rl ?_;refine o1 ?_;refine o1 ?_;refine WL.cast (t:=11) (u':=.int .i64 ((k+1:Nat):Int)) rfl (aD (by omega)) ?_
  (iterate 4 refine o1 ?_);refine nl ?_
  exact⟨k+1,by omega,by omega,Dh h0 [0] _ _ (by decide) rfl ⟨rfl,rfl,nY (by omega),trivial⟩ ⟨cG (congrArg (fun l=>some (⟨t,1,(aV l).map .t⟩:Ob)) (Ia (by omega))),rfl⟩⟩
 refine ex ?_
 exact Re (lent':=[⟨t,1,(aV xs.reverse).map .t⟩]) (.inr rfl) rfl Rf (by decide) (fun _ h=>by cases h) ⟨⟨rfl,rfl⟩,trivial⟩ ⟨congrArg (fun l=>some (⟨t,1,(aV l).map .t⟩:Ob)) (Jh (by omega)),trivial⟩ ⟨wB _,trivial⟩ (fun h=>by cases h) ⟨rfl,rfl⟩
theorem Qp {xs:List Nat}{v:Nat}(hx:xs.length≤1000000) (hl:Lim 4294967296 xs) (hv0:vl 4294967296 xs=v):aJ true Tryz.prog 14 [] [.one (.t (sU false xs))] (bC (.one (tv (.string (aH (tx v)))))):=by
 refine cR Tryz.func14 rfl Tryz.ntmps14 rfl aG rfl fun N9 w9 c0 h0=>?_
 have hvL:v<4294967296^xs.length:=hv0▸dQ hl
 have hvl:=aF (k:=xs.length) (by omega) hvL
 refine sq ?_;refine rl ?_;refine o1 ?_;refine nl ?_;refine sq ?_;refine rl ?_;refine Tp 0 ?_;refine nl ?_;refine sq ?_;refine rl ?_;refine o1 ?_;refine nl ?_;refine sq ?_;refine sq ?_
 refine rl ?_;refine o1 ?_;refine ca (zL hl (by omega) hv0) wG ⟨a1 rfl,rfl⟩ (.one (.t (sU false (dg 4294967296 v)))) ?_
 refine o1 ?_;refine nl ?_;refine bl ?_
 refine lp (γ:=(List Nat×List Nat)×Nat) (fun s=>bO [(0,.one (.t (sU false (dg 4294967296 s.2)))),(3,.one (.pt 0 0)),(4,.one (.sl 1 0 s.1.1.length))]) (fun s=>[(⟨87,1,(aV s.1.2).map .t⟩:Ob),⟨5,1,(aV (bT s.1.1)).map .t⟩].map some) (fun s=>s.1.2.length=9∧Lim 10 s.1.1∧vl 10 s.1.1+10^s.1.1.length*s.2=v∧s.2≤v∧s.1.1.length≤10*xs.length+9) (fun s=>s.2) (([],List.replicate 9 0),v) ⟨rfl,Lim.nil,(by simp[vl]),Nat.le_refl _,Nat.zero_le _⟩ ((nr (i:=4) 1 5 1 rfl rfl rfl rfl).trans (aZ h0 [0,1] _ _ (by decide) ⟨rfl,rfl,rfl,trivial⟩ ⟨cG rfl,cG (l:=[]) rfl,rfl⟩)) ?_
 rintro⟨⟨ds,nV⟩,u⟩ ⟨ho,hd,hv,hu,hdl⟩;dsimp only at ho hd hv hu hdl⊢;have hul:=eQ hu
 refine sq ?_;refine sq ?_;refine rl ?_;(iterate 3 refine o1 ?_);refine nl ?_;refine bG rfl (fun h1=>?_) (fun h1=>?_)
 ·refine sk ?_;refine bl ?_;refine sq ?_;have hup:=iX (B:=4294967296) (u:=u) (by omega)
  refine rl ?_;refine o1 ?_
  refine ca (Nz (u:=u) (d:=1000000000) (by omega) (by omega) (by omega)) Sp ⟨a1 rfl,a1 rfl,rfl⟩ (.tup [.one (.t (sU false (dg 4294967296 (u/1000000000)))),.one (tv (.int .u32 ((u%1000000000:Nat):Int))),.one (tv (.int .i64 0))]) ?_
  (iterate 7 refine o1 ?_);refine nl ?_;refine sq ?_;refine sq ?_;refine rl ?_;refine o1 ?_;refine nl ?_;refine bl ?_
  refine lp (γ:=Nat) (fun i=>bO [(3,.one (.pt 0 0)),(4,.one (.sl 1 0 ds.length)),(5,.one (.t (sU false (dg 4294967296 (u/1000000000))))),(6,.one (tv (.int .u32 ((u%1000000000/10^i:Nat):Int)))),(21,.one (tv (.int .i64 ((i:Nat):Int))))]) (fun i=>[(⟨87,1,(aV (bT (fd (i) (u%1000000000))++nV.drop (i))).map .t⟩:Ob),⟨5,1,(aV (bT ds)).map .t⟩].map some) (fun i=>i≤9) (fun i=>9-i) 0 (Nat.zero_le _) (aZ h0 [0,1] _ _ (by decide) ⟨rfl,rfl,rfl,nY (by rw[Nat.pow_zero,Nat.div_one]),rfl,trivial⟩ ⟨cG rfl,cG rfl,rfl⟩) fun i hi=>?_
  have hlen:(bT (fd (i) (u%1000000000))++nV.drop (i)).length=9:=by rw[List.length_append,dM,iK,List.length_drop];omega
  have hdi:u%1000000000/10^i≤u%1000000000:=Nat.div_le_self _ _
  refine sq ?_;refine rl ?_;refine o1 ?_;refine nl ?_;refine sq ?_;refine bG rfl (fun h2=>?_) (fun h2=>?_)
  ·refine sk ?_;refine sq ?_;refine bl ?_;refine sq ?_;refine rl ?_;refine o1 ?_;refine o1 ?_;refine nl ?_;refine sq ?_;refine rl ?_;(iterate 3 refine o1 ?_)
   refine WL.cast (t:=26) (u':=.int .u32 (((u%1000000000/10^i%10):Nat):Int)) rfl (aD (eO _ 10)) ?_;refine o1 ?_
   refine WL.cast (t:=27) (u':=.int .u8 (((u%1000000000/10^i%10):Nat):Int)) rfl (aD (by omega)) ?_
   refine o1 ?_;refine WL.cast (t:=28) (u':=.int .u8 (((48+u%1000000000/10^i%10):Nat):Int)) rfl (aD (by omega)) ?_
   refine o1 ?_
   refine Rg (nX (bT (fd (i) (u%1000000000))++nV.drop (i)) (k:=i) (v:=48+u%1000000000/10^i%10) (by omega)) (qT (bT (fd (i) (u%1000000000))++nV.drop (i)) (by omega)) ?_
   refine nl ?_;refine rl ?_;refine o1 ?_;refine o1 ?_ (hC:=(oC 10 (by omega) (Qh (Nat.lt_of_le_of_lt hdi (by omega)))))
   refine WL.cast (t:=31) (u':=.int .u32 (((u%1000000000/10^i/10):Nat):Int)) rfl (aD (jE _ 10)) ?_;refine o1 ?_;refine nl ?_;refine rl ?_;refine o1 ?_
   refine WL.cast (t:=32) (u':=.int .i64 ((i+1:Nat):Int)) rfl (aD (by omega)) ?_
   refine o1 ?_;refine nl ?_
   exact⟨i+1,by omega,by omega,aZ h0 [0,1] _ _ (by decide) ⟨rfl,rfl,rfl,nY (by rw[Nat.pow_succ,Nat.div_div_eq_div_mul]),rfl,trivial⟩ ⟨cG (congrArg (fun l=>some (⟨87,1,(aV l).map .t⟩:Ob)) (Nh (by omega) ho)),cG rfl,rfl⟩⟩
  refine ex ?_;have hi9:i=9:=by omega
  subst hi9;have he9:(bT (fd (9) (u%1000000000))++nV.drop (9))=bT (fd 9 (u%1000000000)):=by rw[List.drop_of_length_le (by omega),List.append_nil]
  refine sq ?_;refine rl ?_;refine o1 ?_
  refine Qc (m:=9) (by_:=1) 2 (DstA.sl (k:=1) (n:=ds.length) (e:=5) (z:=1) rfl (by rw[Be,dM])) (Bc _) (zA _) (by rw[Be,hlen]) (by omega) (by omega) ?_
  refine o1 ?_;refine nl ?_;refine rl ?_;refine o1 ?_;refine o1 ?_;refine nl ?_
  exact⟨((ds++fd 9 (u%1000000000),bT (fd 9 (u%1000000000))),u/1000000000),by dsimp only;omega,⟨by dsimp only;rw[dM,iK],hd.append (Ng _ _),Qg hv,by dsimp only;omega,by dsimp only;rw[List.length_append,iK];have:=Ji hv hup hvL;omega⟩,aZ h0 [0,2] _ _ (by decide) ⟨rfl,rfl,congrArg (fun n=>some (FV.one (.sl 2 0 n))) (show(ds++fd 9 (u%1000000000)).length=ds.length+9 by rw[List.length_append,iK]),trivial⟩ ⟨cG (congrArg (fun l=>some (⟨87,1,(aV l).map .t⟩:Ob)) he9),cG (congrArg (fun l=>some (⟨5,1,l⟩:Ob)) ((lM _ _).trans (congrArg (fun l:List Nat=>(aV l).map AV.t) (show bT ds++(bT (fd (9) (u%1000000000))++nV.drop (9))=bT (ds++fd 9 (u%1000000000)) by rw[he9,zC])))),rfl⟩⟩
 refine ex ?_;refine sq ?_;have hu0:u=0:=(bX (B:=4294967296) (by omega)).1 (List.eq_nil_of_length_eq_zero (by omega))
 subst hu0;rw[Nat.mul_zero,Nat.add_zero]at hv;refine rl ?_;refine o1 ?_
 refine cl 2 [1] (Ek (t:=5) (xs:=bT ds) (n:=ds.length) (dM ds) (by omega)) Sq ⟨cG rfl,rfl⟩ ⟨rfl,rfl⟩ (ok:=[some ⟨5,1,(aV (bT ds).reverse).map .t⟩]) ⟨cG rfl,rfl⟩ ?_
 refine nl ?_;refine sq ?_;refine sq ?_;refine rl ?_;refine o1 ?_
 refine Tq (xs:=(bT ds).reverse) (Nk rfl (by rw[List.length_reverse,dM])) (by rw[List.length_reverse,dM]) ?_
 refine ca (Bt (sT (sV hd))) Sr ⟨a1 rfl,a1 rfl,rfl⟩ (.one (tv (.string (aH ((bT ds).reverse.dropWhile (· ==48)))))) ?_;refine o1 ?_;refine nl ?_;refine sq ?_
 refine rl ?_;refine o1 ?_;refine o1 ?_
 refine WL.cast (t:=43) (u':=.bool (!decide (((bT ds).reverse.dropWhile (· ==48))=[]))) rfl (congrArg Value.bool (congrArg not (jT (Ni (sT (sV hd)))))) ?_;refine nl ?_
 refine nJ rfl (fun h3=>?_) (fun h3=>?_)
 ·refine sq ?_;refine rl ?_;refine o1 ?_;refine o1 ?_;refine nl ?_;refine rt ?_
  exact en (.inl rfl) rfl (eA (cY _)) (by decide) (fun _=>trivial) (congrArg (fun z=>FV.one (tv (.string z))) (congrArg aH (Jj hd hv h3)))
 refine sk ?_;refine sq ?_;refine rl ?_;refine o1 ?_;refine nl ?_;refine rt ?_
 exact en (.inl rfl) rfl (eA (cY _)) (by decide) (fun _=>trivial) (congrArg (fun z=>FV.one (tv (.string z))) (congrArg aH (Nj hd hv h3)))
theorem El {xs ys:List Nat}(hx:Lim 4294967296 xs) (hy:Lim 4294967296 ys) (h:xs.length≤549755813888) (h':ys.length≤549755813888) (h0:vl 4294967296 ys=0):aJ true Tryz.prog 45 [] [.one (.t (sU false xs)),.one (.t (sU false ys))] (bC (.tup [.one (.t (sU true [])),.one (.t (sU true [])),.one (tv (.int .i64 20))])):=by
 intro N w cs us hL
 obtain⟨rfl,hf⟩:=nZ hL
 obtain⟨u,v,rfl,h1,h2⟩:=oB hf
 obtain⟨A,c,rfl,u1⟩:=eB h1 hx fun b hb=>hb.1
 obtain⟨B,d,rfl,u2⟩:=eB h2 hy fun b hb=>hb.1
 refine(qZ A B _ _ c d xs ys w u1 u2 h h' h0).mono ?_
 rintro e W ⟨A1,n1,c1,A2,n2,c2,rfl,ho,ho2,hap,hb⟩
 obtain⟨y1,a1,a2,a3,a4⟩:=lR (N:=fun b=>true=false∧(b<W.heap.size∧b∉VT.fpL [])∧(N b∨w.heap.size≤b)) ho
 obtain⟨y2,b1,b2,b3,b4⟩:=lR (N:=fun b=>true=false∧(b<W.heap.size∧b∉VT.fpL [])∧(N b∨w.heap.size≤b)) ho2
 refine .mk0 (y:=[y1,y2,.w (.int .i64 20)]) rfl hb (by simp only[VT.okL,VT.ok];exact⟨a3,b3,trivial,trivial⟩) ?_ (fun b hb'=>?_) ?_
 ·simp only[VT.fpL,VT.fp,a4,b4,List.append_nil]
  rw[List.nodup_append]
  refine⟨oD ..,oD ..,fun x hx y hy e=>?_⟩
  subst e
  rcases A1 with _ | a
  ·simp[Value.ownBlock]at hx
  rcases A2 with _ | b
  ·simp[Value.ownBlock]at hy
  simp[Value.ownBlock]at hx hy
  exact hap a b rfl rfl (by rw[←hx,←hy])
 ·simp only[VT.fpL,VT.fp,a4,b4,List.append_nil]at hb'
  rcases List.mem_append.1 hb' with hb' | hb'
  ·exact ho.blk b hb'
  exact ho2.blk b hb'
 refine⟨[_,_,_],rfl,?_⟩
 exact⟨_,_,[y1],[y2,.w (.int .i64 20)],rfl,rfl,⟨y1,rfl,a1.symm,fB (fun _ _=>rfl) (fun b hb=>absurd hb.1 (by simp)) _ _ a2⟩,_,_,[y2],[.w (.int .i64 20)],rfl,rfl,⟨y2,rfl,b1.symm,fB (fun _ _=>rfl) (fun b hb=>absurd hb.1 (by simp)) _ _ b2⟩,_,_,[.w (.int .i64 20)],[],rfl,rfl,⟨_,rfl,rfl,by simp[CR,tv,OR]⟩,rfl,rfl⟩
def fW (xs:List Nat) (k:Nat):List Nat:=List.replicate k 77++xs.drop k
theorem Gw {xs:List Nat}{k:Nat}(h:k≤xs.length):(fW xs k).length=xs.length:=by simp[fW];omega
theorem Gx {xs:List Nat}{k:Nat}(h:k<xs.length):(fW xs k).set k 77=fW xs (k+1):=by
 unfold fW
 rw[List.set_append_right _ _ (by simp),List.length_replicate,Nat.sub_self,List.drop_eq_getElem_cons h,List.set_cons_zero,List.replicate_succ',List.append_assoc]
 rfl
theorem Gy {xs:List Nat}{k:Nat}(h:xs.length≤k) (h':k≤xs.length):fW xs k=List.replicate xs.length 77:=by
 have:k=xs.length:=by omega
 simp[fW,this]
theorem Oh {xs:List Nat}{m:Nat}(h:m≤xs.length):FV.one (.t (.s false 22 1 m ((aB xs).take (m*1))))=.one (.t (sU false (xs.take m))):=by
 unfold sU aB
 rw[Nat.mul_one,←List.map_take,List.length_take,Nat.min_eq_left h]
def Nn (xs:List Nat) (u:Nat):Prop:=Lim 4294967296 xs∧xs.length≤1000000∧vl 4294967296 xs=u
theorem Nn.of {u:Nat}(h:(dg 4294967296 u).length≤1000000):Nn (dg 4294967296 u) u:=⟨bE (by omega) _,h,bL (by omega) _⟩
theorem Nn.eqT {xs:List Nat}{u:Nat}(h:Nn xs u):dg 4294967296 u=trim xs:=by rw[←h.2.2,dR (by omega) h.1]
theorem Nn.len {xs:List Nat}{u L:Nat}(h:Nn xs u) (hL:xs.length≤L):(dg 4294967296 u).length≤L:=by rw[h.eqT];exact Nat.le_trans (bV _) hL
section
variable {xs ys:List Nat}{u v w q r:Nat}
abbrev nF (xs:List Nat):FV:=.one (.t (sU false xs))
abbrev nO (u:Nat):FV:=.one (.t (sU true (dg 4294967296 u)))
theorem eC (hx:Nn xs u) (hy:Nn ys v) (e:u*v=w):aJ true Tryz.prog 44 [] [nF xs,nF ys] (bC (nO w)):=by
 obtain⟨a,b,rfl⟩:=hx
 obtain⟨c,d,rfl⟩:=hy
 exact e▸Qm a c (by omega) (by omega)
theorem rJ (hx:Nn xs u) (hy:Nn ys v) (e:u+v=w):aJ true Tryz.prog 50 [] [nF xs,nF ys] (bC (nO w)):=by
 obtain⟨a,b,rfl⟩:=hx
 obtain⟨c,d,rfl⟩:=hy
 exact e▸Ic a c (by omega) (by omega)
theorem rK (hx:Nn xs u):aJ true Tryz.prog 56 [] [nF xs] (bC (nO u)):=zL hx.1 (Nat.le_trans hx.2.1 (by omega)) hx.2.2
theorem Qq (hx:Nn xs u) (hy:Nn ys v):aJ true Tryz.prog 67 [] [nF xs,nF ys] (bC (.one (tv (.int .i64 (fS u v))))):=by
 obtain⟨a,b,rfl⟩:=hx
 obtain⟨c,d,rfl⟩:=hy
 exact Ql a c
theorem Bu {m:Nat}(hx:Nn xs u) (hm:m<4294967296) (e:u*m=w):aJ true Tryz.prog 51 [] [nF xs,.one (tv (.int .u32 (m:Int)))] (bC (nO w)):=by
 obtain⟨a,b,rfl⟩:=hx
 exact e▸rE a (by omega) hm
theorem hJ (hx:Nn xs u) (hy:Nn ys v) (h0:v≠0) (hq:u/v=q) (hr:u%v=r):aJ true Tryz.prog 45 [] [nF xs,nF ys] (bC (.tup [nO q,nO r,.one (tv (.int .i64 0))])):=by
 obtain⟨a,b,rfl⟩:=hx
 obtain⟨c,d,rfl⟩:=hy
 subst hq hr
 exact Gt a c (by omega) (by omega) h0
theorem uD (hx:Nn xs u) (hy:Nn ys 0):aJ true Tryz.prog 45 [] [nF xs,nF ys] (bC (.tup [nO 0,nO 0,.one (tv (.int .i64 20))])):=El hx.1 hy.1 (Nat.le_trans hx.2.1 (by omega)) (Nat.le_trans hy.2.1 (by omega)) hy.2.2
theorem gR (hx:Nn xs u):aJ true Tryz.prog 14 [] [nF xs] (bC (.one (tv (.string (aH (tx u)))))):=Qp hx.2.1 hx.1 hx.2.2
end
def rT (l:List (List Nat)):List Tr:=l.map (sU false)
def bY (l:List (List Nat)) (k:Nat):List Nat:=l.getD k []
theorem qC:∀(l:List (List Nat)){k:Nat},k<l.length→((rT l).drop (k*1)).take [sU false (bY l k)].length=[sU false (bY l k)]
 | [],_,h=>by simp at h
 | _::_,0,_=>rfl
 | _::l,k+1,h=>by
  have:=qC l (k:=k) (by simpa using h)
  simp only[Nat.mul_one]at this⊢
  exact this
theorem fI {l:List (List Nat)}{k:Nat}(h:k<l.length):bY l k∈l:=by
 unfold bY
 rw[List.getD_eq_getElem?_getD,List.getElem?_eq_getElem h]
 exact List.getElem_mem h
theorem qD {l:List (List Nat)}{k:Nat}(h:k<l.length):l[k]? =some (bY l k):=by simp[bY,h]
def val (xs:List Nat):Nat:=vl 4294967296 xs
def cQ (l:List (List Nat)):Nat:=l.foldl (fun g xs=>Nat.gcd g (val xs)) 0
def cB (l:List (List Nat)):Nat:=l.foldl (fun g xs=>g*val xs) 1
theorem xE {l:List (List Nat)}{k:Nat}(h:k<l.length):Nat.gcd (cQ (l.take k)) (val (bY l k))=cQ (l.take (k+1)):=by
 rw[List.take_add_one,qD h]
 simp[cQ]
theorem oX {l:List (List Nat)}{k:Nat}(h:k<l.length):cB (l.take k)*val (bY l k)=cB (l.take (k+1)):=by
 rw[List.take_add_one,qD h]
 simp[cB]
def RL (M:Nat) (l:List (List Nat)):Prop:=∀xs∈l,Lim 4294967296 xs∧xs.length≤M
theorem RL.nn {M k:Nat}{l:List (List Nat)}(h:RL M l) (hM:M≤1000000) (hk:k<l.length):Nn (bY l k) (val (bY l k)):=⟨(h _ (fI hk)).1,Nat.le_trans (h _ (fI hk)).2 hM,rfl⟩
theorem RL.len {M k:Nat}{l:List (List Nat)}(h:RL M l) (hk:k<l.length):(dg 4294967296 (val (bY l k))).length≤M:=by
 unfold val
 rw[dR (by omega) (h _ (fI hk)).1]
 exact Nat.le_trans (bV _) (h _ (fI hk)).2
def eD (n:Int):Int:=if n<0 then 2 else if 4096<n then 3 else 0
def cS (x:Nat) (n:Int):Nat:=if eD n=0 then x^n.toNat else 0
theorem iA {x m:Nat}(h:x<4294967296):(dg 4294967296 (x^m)).length≤m+1:=by
 refine aF (by omega) (Nat.lt_of_le_of_lt (Nat.pow_le_pow_left (Nat.le_of_lt h) m) ?_)
 exact Nat.pow_lt_pow_right (by omega) (by omega)
theorem Em {j:Nat}(h:j≤12):4096/2^j=2^(12-j):=by
 rw[show(4096:Nat)=2^12 from rfl,Nat.pow_div h (by omega)]
theorem Gz (n i:Nat):n&&& 2^i=n/2^i%2*2^i:=by
 apply Nat.eq_of_testBit_eq
 intro k
 rw[Nat.testBit_and,Nat.testBit_two_pow]
 rcases Nat.mod_two_eq_zero_or_one (n/2^i)with h | h
 ·rw[h,Nat.zero_mul,Nat.zero_testBit]
  by_cases hk:i=k
  ·subst hk
   rw[Nat.testBit_eq_decide_div_mod_eq,h]
   rfl
  rw[decide_eq_false hk,Bool.and_false]
 rw[h,Nat.one_mul,Nat.testBit_two_pow]
 by_cases hk:i=k
 ·subst hk
  rw[Nat.testBit_eq_decide_div_mod_eq,h]
  rfl
 rw[decide_eq_false hk,Bool.and_false]
theorem zS {n j:Nat}(h:j≤12):n&&&(4096/2^j)=n/2^(12-j)%2*2^(12-j):=by
 rw[Em h,Gz]
theorem Ke {a b:Nat}(ha:a<9223372036854775808) (hb:b<9223372036854775808):IntKind.i64.wrap ((BitVec.ofInt IntKind.i64.bits (a:Int)&&& BitVec.ofInt IntKind.i64.bits (b:Int)).toNat:Int)=((a&&& b:Nat):Int):=by
 have e:IntKind.i64.bits=64:=rfl
 rw[e,BitVec.toNat_and,BitVec.ofInt_natCast,BitVec.ofInt_natCast,BitVec.toNat_ofNat,BitVec.toNat_ofNat,Nat.mod_eq_of_lt (by omega),Nat.mod_eq_of_lt (by omega)]
 have h1:a&&& b≤a:=Nat.and_le_left
 simp[IntKind.wrap,IntKind.signed,IntKind.bits]
 omega
theorem xF {j:Nat}:Int.fdiv ((4096/2^j:Nat):Int) (2^(min (1:Int).toNat IntKind.i64.bits))=((4096/2^(j+1):Nat):Int):=by
 have e:(2:Int)^(min (1:Int).toNat IntKind.i64.bits)=((2:Nat):Int):=by decide
 rw[e,Int.fdiv_eq_ediv,if_pos (Or.inl (by omega)),Int.sub_zero,←Int.natCast_ediv,Nat.div_div_eq_div_mul,←Nat.pow_succ]
theorem zT {n j:Nat}(h:j≤12):n/2^(12-j)=2*(n/2^(13-j))+n/2^(12-j)%2:=by
 have e:2^(13-j)=2^(12-j)*2:=by rw[show 13-j=(12-j)+1 by omega,Nat.pow_succ]
 rw[e,←Nat.div_div_eq_div_mul]
 omega
theorem Qr {x n j:Nat}(h:j≤12) (hb:n&&&(4096/2^j)=0):x^(n/2^(13-j))*x^(n/2^(13-j))=x^(n/2^(12-j)):=by
 rw[zS h]at hb
 have h1:n/2^(12-j)%2=0:=by
  rcases Nat.mul_eq_zero.1 hb with h2 | h2
  ·exact h2
  have:=Nat.pow_pos (n:=12-j) (show 0<2 by omega);omega
 rw[←Nat.pow_add,zT h,h1]
 congr 1
 omega
theorem Qs {x n j:Nat}(h:j≤12) (hb:n&&&(4096/2^j)≠0):x^(n/2^(13-j))*x^(n/2^(13-j))*x=x^(n/2^(12-j)):=by
 rw[zS h]at hb
 have h1:n/2^(12-j)%2=1:=by
  rcases Nat.mod_two_eq_zero_or_one (n/2^(12-j))with h2 | h2
  ·rw[h2,Nat.zero_mul]at hb;exact absurd rfl hb
  exact h2
 rw[←Nat.pow_add,←Nat.pow_succ,zT h,h1]
 congr 1
 omega
def iU:List Nat:=[0,1,2,2,3,3,3,3,4,4,4,4,4,4,4,4]
def jZ (t:Nat):Nat:=if t≤15 then nth iU t else 4+jZ (t/16)
termination_by t
decreasing_by omega
theorem xG {t:Nat}(h:¬t≤15):jZ t=4+jZ (t/16):=by
 rw[jZ,if_neg h]
theorem rL {t:Nat}(h:t≤15):jZ t=nth iU t:=by
 rw[jZ,if_pos h]
theorem Ha {t:Nat}(h:0<t):0<jZ t:=by
 by_cases h1:t≤15
 ·rw[rL h1]
  have:∀t≤15,0<t→0<nth iU t:=by decide
  exact this t h1 h
 rw[xG h1];omega
theorem Kf:∀{n t:Nat},t<16^n→jZ t≤4*n+4:=by
 intro n
 induction n with
 | zero=>intro t h;rw[show t=0 by simpa using h,rL (by omega)];decide
 | succ n ih=>
  intro t h
  by_cases h1:t≤15
  ·rw[rL h1]
   have:∀t≤15,nth iU t≤4:=by decide
   have:=this t h1
   omega
  rw[xG h1]
  have:=ih (t:=t/16) (by rw[Nat.pow_succ]at h;omega)
  omega
def oY (u:Nat):Nat:=if u=0 then 0 else 32*((dg 4294967296 u).length-1)+jZ (nth (dg 4294967296 u) ((dg 4294967296 u).length-1))
theorem Kg {u:Nat}(h:u≠0):0<nth (dg 4294967296 u) ((dg 4294967296 u).length-1):=by
 have h1:=dR (B:=4294967296) (by omega) (bE (B:=4294967296) (by omega) u)
 rw[bL (by omega)]at h1
 have h0:(dg 4294967296 u).length≠0:=fun e=>h ((bX (by omega)).1 (List.eq_nil_of_length_eq_zero e))
 have h2:=congrArg List.length h1
 rcases Nat.eq_zero_or_pos (nth (dg 4294967296 u) ((dg 4294967296 u).length-1))with h3 | h3
 ·have h4:=kG (xs:=dg 4294967296 u) (k:=(dg 4294967296 u).length) (by omega) (Nat.le_refl _) h3
  rw[List.take_length,←h1]at h4
  have h5:=bV ((dg 4294967296 u).take ((dg 4294967296 u).length-1))
  have h6:=congrArg List.length h4
  rw[List.length_take]at h5
  omega
 exact h3
theorem En {u:Nat}:oY u=0↔u=0:=by
 unfold oY
 by_cases h:u=0
 ·simp[h]
 rw[if_neg h]
 have:=Ha (Kg h)
 exact⟨fun h=>by omega,fun h'=>absurd h' h⟩
theorem Sx {t:Nat}:Int.fdiv (t:Int) (2^(min (4:Int).toNat IntKind.u32.bits))=((t/16:Nat):Int):=by
 have e:(2:Int)^(min (4:Int).toNat IntKind.u32.bits)=((16:Nat):Int):=by decide
 rw[e,Int.fdiv_eq_ediv,if_pos (Or.inl (by omega)),Int.sub_zero,←Int.natCast_ediv]
theorem tC {l:List (List Nat)}:dg 4294967296 (cB (l.take 0))=[1]:=by
 show dg 4294967296 1=[1]
 decide
theorem Kh {xs ys:List Nat}(h:¬xs.length=ys.length):false=decide (xs=ys):=(decide_eq_false fun e=>h (by rw[e])).symm
theorem Ki {xs ys:List Nat}{k:Nat}(h:¬nth xs k=nth ys k):false=decide (xs=ys):=(decide_eq_false fun e=>h (by rw[e])).symm
theorem Kj {xs ys:List Nat}{k:Nat}(hl:xs.length=ys.length) (hk:xs.take k=ys.take k) (hk2:xs.length≤k):true=decide (xs=ys):=by
 rw[xB hk2,xB (by omega)]at hk
 exact(decide_eq_true hk).symm
theorem uE {l:List (List Nat)}(hr:RL 1000 l) (hl:l.length≤100):aJ true Tryz.prog 63 [] [.one (.t (.s false 23 1 l.length (rT l)))] (bC (nO (cB l))):=by
 refine cR Tryz.func63 rfl Tryz.ntmps63 rfl aG rfl fun N9 w9 c0 h0=>?_
 refine sq ?_;refine rl ?_;refine o1 ?_;refine nl ?_;refine sq ?_;refine rl ?_;refine bs 0 ?_;refine o1 ?_;refine nl ?_;refine sq ?_;refine sq ?_;refine rl ?_;(iterate 3 refine o1 ?_)
 refine nl ?_;refine bl ?_
 refine lp (γ:=Nat) (fun s=>bO [(3,.one (.sl 0 0 ((dg 4294967296 (cB (l.take s))).length))),(7,.one (.t (.s false 23 1 l.length (rT l)))),(8,.one (tv (.int .i64 ((l.length:Nat):Int)))),(9,.one (tv (.int .i64 ((s:Nat):Int))))]) (fun s=>[(⟨22,1,(aB (dg 4294967296 (cB (l.take s)))).map .t⟩:Ob)].map some) (fun s=>s≤l.length∧(dg 4294967296 (cB (l.take s))).length≤1+1000*s) (fun s=>l.length-s) 0 (⟨Nat.zero_le _,by rw[tC];decide⟩) (aZ h0 [0] _ _ (by decide) ⟨(congrArg (fun l:List Nat=>some (FV.one (.sl 0 0 l.length))) tC),rfl,rfl,rfl,trivial⟩ ⟨cG (congrArg (fun l:List Nat=>some (⟨22,1,(aB l).map .t⟩:Ob)) tC.symm),rfl⟩) ?_
 rintro i hi;refine sq ?_;refine rl ?_;refine o1 ?_;refine nl ?_;refine sq ?_;refine bG rfl (fun h1=>?_) (fun h1=>?_)
 ·refine sk ?_;refine sq ?_;refine bl ?_;refine sq ?_;refine rl ?_;refine o1 ?_;refine jS ([sU false (bY l (i))]) (qC l (k:=i) (by omega)) ?_
  refine o1 ?_;refine nl ?_;have hml:=hr.len (k:=i) (by omega)
  have hml2:=dH (cB (l.take i)) (val (bY l i))
  refine rl ?_;refine o1 ?_;refine o1 ?_
  refine pF 1 (eC (Nn.of (by omega)) (hr.nn (by omega) (by omega)) (oX (by omega))) fG ⟨cH rfl (.sl rfl rfl (fV _) (dD _)),a1 rfl,rfl⟩ ?_
  refine o1 ?_;refine nl ?_;refine rl ?_;refine o1 ?_;refine WL.cast (t:=16) (u':=.int .i64 ((i+1:Nat):Int)) rfl (aD (by omega)) ?_
  refine o1 ?_;refine nl ?_;exact⟨i+1,by omega,⟨by omega,by rw[←oX (by omega)];omega⟩,aZ h0 [1] _ _ (by decide) ⟨rfl,rfl,rfl,rfl,trivial⟩ ⟨cG rfl,rfl⟩⟩
 refine ex ?_;refine sq ?_;refine rl ?_;refine o1 ?_;refine o1 ?_;refine nl ?_;refine rt ?_;have hk9:i=l.length:=by omega
 exact en (.inl rfl) rfl (eA (.one (.sl (trs:=aB (dg 4294967296 (cB (l.take i)))) rfl rfl (jW _) (dD _)))) (by decide) (fun _=>.inl ⟨rfl,gF _⟩) (by rw[hk9,List.take_of_length_le (Nat.le_refl _)];rfl)
theorem Bv {l:List (List Nat)}(hr:RL 1000 l) (hl:l.length≤100):aJ true Tryz.prog 46 [] [.one (.t (.s false 23 1 l.length (rT l)))] (bC (nO (cQ l))):=by
 refine cR Tryz.func46 rfl Tryz.ntmps46 rfl aG rfl fun N9 w9 c0 h0=>?_
 refine sq ?_;refine rl ?_;refine o1 ?_;refine nl ?_;refine sq ?_;refine rl ?_;refine o1 ?_;refine nl ?_;refine sq ?_;refine sq ?_;refine rl ?_;(iterate 3 refine o1 ?_);refine nl ?_
 refine bl ?_
 refine lp (γ:=Nat) (fun s=>bO [(9,.one (.t (.s false 23 1 l.length (rT l)))),(10,.one (tv (.int .i64 ((l.length:Nat):Int)))),(3,.one (.t (sU false (dg 4294967296 (cQ (l.take s)))))),(11,.one (tv (.int .i64 ((s:Nat):Int))))]) (fun s=>([]:List Ob).map some) (fun s=>s≤l.length∧(dg 4294967296 (cQ (l.take s))).length≤1000) (fun s=>l.length-s) 0 (⟨Nat.zero_le _,by show(dg 4294967296 0).length≤1000;decide⟩) (((nr (i:=3) 0 22 1 rfl rfl rfl rfl).trans (uC (i:=3) (zs:=[]) (zs':=[]) rfl rfl rfl rfl rfl)).trans (aZ h0 [] _ _ (by decide) ⟨rfl,rfl,rfl,rfl,trivial⟩ rfl)) ?_
 rintro i hi;refine sq ?_;refine rl ?_;refine o1 ?_;refine nl ?_;refine sq ?_;refine bG rfl (fun h1=>?_) (fun h1=>?_)
 ·refine sk ?_;refine sq ?_;refine bl ?_;refine sq ?_;refine rl ?_;refine o1 ?_;refine jS ([sU false (bY l (i))]) (qC l (k:=i) (by omega)) ?_
  refine o1 ?_;refine nl ?_;refine sq ?_;refine rl ?_;refine o1 ?_;refine ca (rK (hr.nn (by omega) (by omega))) wG ⟨a1 rfl,rfl⟩ (.one (.t (sU false (dg 4294967296 (val (bY l i)))))) ?_
  refine o1 ?_;refine nl ?_;refine bl ?_
  refine lp (γ:=Nat×Nat) (fun s=>bO [(9,.one (.t (.s false 23 1 l.length (rT l)))),(10,.one (tv (.int .i64 ((l.length:Nat):Int)))),(11,.one (tv (.int .i64 ((i:Nat):Int)))),(3,.one (.t (sU false (dg 4294967296 (s.1))))),(5,.one (.t (sU false (dg 4294967296 (s.2)))))]) (fun s=>([]:List Ob).map some) (fun s=>Nat.gcd s.1 s.2=Nat.gcd (cQ (l.take i)) (val (bY l i))∧(dg 4294967296 (s.1)).length≤1000∧(dg 4294967296 (s.2)).length≤1000) (fun s=>s.2) (cQ (l.take i),val (bY l i)) ⟨rfl,hi.2,hr.len (by omega)⟩ (aZ h0 [] _ _ (by decide) ⟨rfl,rfl,rfl,rfl,rfl,trivial⟩ rfl) ?_
  rintro⟨u,v⟩ ⟨hg,hu,hv⟩;dsimp only at hg hu hv⊢;refine sq ?_;refine sq ?_;refine rl ?_;(iterate 3 refine o1 ?_);refine nl ?_;refine bG rfl (fun h2=>?_) (fun h2=>?_)
  ·refine sk ?_;refine bl ?_;refine sq ?_;have hv0:v≠0:=Nat.pos_iff_ne_zero.1 (iX (B:=4294967296) (u:=v) (by omega))
   have hmv:=Nat.mod_lt u (Nat.pos_of_ne_zero hv0)
   have hml:(dg 4294967296 (u%v)).length≤1000:=Nat.le_trans (eQ (Nat.le_of_lt hmv)) hv
   have hgs:Nat.gcd v (u%v)=Nat.gcd (cQ (l.take i)) (val (bY l i)):=by rw[←hg,Nat.gcd_comm v,←Nat.gcd_rec,Nat.gcd_comm]
   refine rl ?_;refine o1 ?_;refine o1 ?_
   refine ca (hJ (Nn.of (u:=u) (by omega)) (Nn.of (u:=v) (by omega)) hv0 rfl rfl) nU ⟨a1 rfl,a1 rfl,rfl⟩ (.tup [nF (dg 4294967296 (u/v)),nF (dg 4294967296 (u%v)),.one (tv (.int .i64 0))]) ?_
   (iterate 7 refine o1 ?_);refine nl ?_;refine rl ?_;(iterate 4 refine o1 ?_);refine nl ?_
   exact⟨(v,u%v),by dsimp only;omega,⟨hgs,hv,hml⟩,aZ h0 [] _ _ (by decide) ⟨rfl,rfl,rfl,rfl,rfl,trivial⟩ rfl⟩
  refine ex ?_;refine rl ?_;refine o1 ?_;refine WL.cast (t:=29) (u':=.int .i64 ((i+1:Nat):Int)) rfl (aD (by omega)) ?_
  refine o1 ?_;refine nl ?_;have hv0:v=0:=(bX (B:=4294967296) (by omega)).1 (List.eq_nil_of_length_eq_zero (by omega))
  have hgu:cQ (l.take (i+1))=u:=by rw[←xE (by omega),←hg,hv0,Nat.gcd_zero_right]
  exact⟨i+1,by omega,⟨by omega,by rw[hgu];exact hu⟩,aZ h0 [] _ _ (by decide) ⟨rfl,rfl,(congrArg (fun z:Nat=>some (nF (dg 4294967296 z))) hgu),rfl,trivial⟩ rfl⟩
 refine ex ?_;refine sq ?_;refine rl ?_;refine o1 ?_;refine pF 0 (Jz (bE (by omega) _) (by omega)) Su ⟨a1 rfl,rfl⟩ ?_
 refine o1 ?_;refine nl ?_;refine rt ?_;have hk9:i=l.length:=by omega
 exact en (.inl rfl) rfl (eA (.one (.sl (trs:=aB (dg 4294967296 (cQ (l.take i)))) rfl rfl (jW _) (dD _)))) (by decide) (fun _=>.inl ⟨rfl,gF _⟩) (by rw[hk9,List.take_of_length_le (Nat.le_refl _)];rfl)
theorem rM {x:Nat}{n:Int}(hx:x<4294967296):aJ true Tryz.prog 11 [] [.one (tv (.int .u32 ((x:Nat):Int))),.one (tv (.int .i64 n))] (bC (.tup [nO (cS x n),.one (tv (.int .i64 (eD n)))])):=by
 refine cR Tryz.func11 rfl Tryz.ntmps11 rfl aG rfl fun N9 w9 c0 h0=>?_
 refine sq ?_;refine rl ?_;refine o1 ?_;refine o1 ?_;refine nl ?_;refine sq ?_;refine bl ?_;refine sq ?_;refine rl ?_;(iterate 3 refine o1 ?_);refine nl ?_
 refine bG rfl (fun h1=>?_) (fun h1=>?_)
 ·refine sq ?_;refine rl ?_;refine o1 ?_;refine o1 ?_;refine nl ?_;refine rt ?_;have he:eD n=2:=by unfold eD;rw[if_pos (by omega)]
  exact en (.inl rfl) rfl (fQ (.cons (.one (.nil (t:=22) (z:=1))) (.cons (cY _) .nil))) (by decide) (fun _=>⟨.inl ⟨rfl,trivial⟩,trivial,trivial⟩) (by rw[he,cS,he,if_neg (by decide)];rfl)
 refine sq ?_;refine rl ?_;(iterate 3 refine o1 ?_);refine nl ?_;refine bG rfl (fun h2=>?_) (fun h2=>?_)
 ·refine sq ?_;refine rl ?_;refine o1 ?_;refine o1 ?_;refine nl ?_;refine rt ?_;have he:eD n=3:=by unfold eD;rw[if_neg (by omega),if_pos (by omega)]
  exact en (.inl rfl) rfl (fQ (.cons (.one (.nil (t:=22) (z:=1))) (.cons (cY _) .nil))) (by decide) (fun _=>⟨.inl ⟨rfl,trivial⟩,trivial,trivial⟩) (by rw[he,cS,he,if_neg (by decide)];rfl)
 refine sk ?_;refine sq ?_;refine rl ?_;refine bs 0 ?_;refine o1 ?_;refine nl ?_;refine sq ?_;refine sq ?_;refine rl ?_;refine o1 ?_;refine nl ?_;refine bl ?_
 have h1p:dg 4294967296 (x^(n.toNat/2^(13-0)))=[1]:=by rw[show n.toNat/2^(13-0)=0 from Nat.div_eq_of_lt (show n.toNat<8192 by omega),Nat.pow_zero];decide
 refine lp (γ:=Nat) (fun s=>bO [(0,.one (tv (.int .u32 ((x:Nat):Int)))),(1,.one (tv (.int .i64 n))),(6,.one (.sl 0 0 ((dg 4294967296 (x^(n.toNat/2^(13-s)))).length))),(7,.one (tv (.int .i64 ((4096/2^s:Nat):Int))))]) (fun s=>[(⟨22,1,(aB (dg 4294967296 (x^(n.toNat/2^(13-s))))).map .t⟩:Ob)].map some) (fun s=>s≤13) (fun s=>13-s) 0 (by omega) (aZ h0 [0] _ _ (by decide) ⟨rfl,rfl,(congrArg (fun l:List Nat=>some (FV.one (.sl 0 0 l.length))) h1p),rfl,trivial⟩ ⟨cG (congrArg (fun l:List Nat=>some (⟨22,1,(aB l).map .t⟩:Ob)) h1p.symm),rfl⟩) ?_
 rintro j hj;refine sq ?_;refine sq ?_;refine rl ?_;refine o1 ?_;refine o1 ?_;refine nl ?_;refine bG rfl (fun h3=>?_) (fun h3=>?_)
 ·refine sk ?_;refine sq ?_;refine bl ?_;refine sq ?_;have hj12:j≤12:=by
   rcases Nat.lt_or_ge 12 j with h9 | h9
   ·have h8:j=13:=by omega
    rw[h8]at h3;exact absurd h3 (by decide)
   exact h9
  have hpl:=iA (m:=n.toNat/2^(13-j)) hx
  have hql:=iA (m:=n.toNat/2^(13-j)+n.toNat/2^(13-j)) hx
  rw[Nat.pow_add]at hql;have hnl:n.toNat/2^(13-j)≤n.toNat:=Nat.div_le_self _ _
  have hbj:4096/2^j≤4096:=Nat.div_le_self _ _
  refine rl ?_;refine o1 ?_;refine o1 ?_
  refine pF 1 (eC (Nn.of (by omega)) (Nn.of (by omega)) rfl) fG ⟨cH rfl (.sl rfl rfl (fV _) (dD _)),cH rfl (.sl rfl rfl (fV _) (dD _)),rfl⟩ ?_
  refine o1 ?_;refine nl ?_;refine sq ?_;refine rl ?_;(iterate 3 refine o1 ?_)
  refine WL.cast (t:=24) (u':=.int .i64 (((n.toNat&&& 4096/2^j):Nat):Int)) rfl (aD (by rw[show(n:Int)=((n.toNat:Nat):Int) by omega];exact Ke (by omega) (by omega))) ?_
  refine o1 ?_;refine nl ?_;refine bG rfl (fun h4=>?_) (fun h4=>?_)
  ·refine rl ?_;refine o1 ?_;refine o1 ?_;refine pF 2 (Bu (Nn.of (by omega)) hx (Qs hj12 (by omega))) wE ⟨cH rfl (.sl rfl rfl (fV _) (dD _)),a1 rfl,rfl⟩ ?_
   refine o1 ?_;refine nl ?_;refine rl ?_;refine o1 ?_;refine o1 ?_;refine WL.cast (t:=18) (u':=.int .i64 (((4096/2^(j+1)):Nat):Int)) rfl (aD xF) ?_;refine o1 ?_
   refine nl ?_;have hpw:x^(n.toNat/2^(12-j))=x^(n.toNat/2^(12-j)):=rfl
   exact⟨j+1,by omega,by omega,aZ h0 [2] _ _ (by decide) ⟨rfl,rfl,(congrArg (fun z:Nat=>some (FV.one (.sl 2 0 (dg 4294967296 z).length))) (show x^(n.toNat/2^(13-(j+1)))=_ from(by rw[show 13-(j+1)=12-j by omega]))),rfl,trivial⟩ ⟨cG (congrArg (fun z:Nat=>some (⟨22,1,(aB (dg 4294967296 z)).map .t⟩:Ob)) (show x^(n.toNat/2^(13-(j+1)))=_ from(by rw[show 13-(j+1)=12-j by omega])).symm),rfl⟩⟩
  refine sk ?_;refine rl ?_;refine o1 ?_;refine o1 ?_;refine WL.cast (t:=18) (u':=.int .i64 (((4096/2^(j+1)):Nat):Int)) rfl (aD xF) ?_;refine o1 ?_;refine nl ?_
  have hpw:x^(n.toNat/2^(12-j))=x^(n.toNat/2^(13-j))*x^(n.toNat/2^(13-j)):=(Qr hj12 (by omega)).symm
  exact⟨j+1,by omega,by omega,aZ h0 [1] _ _ (by decide) ⟨rfl,rfl,(congrArg (fun z:Nat=>some (FV.one (.sl 1 0 (dg 4294967296 z).length))) (show x^(n.toNat/2^(13-(j+1)))=_ from(by rw[show 13-(j+1)=12-j by omega];exact hpw))),rfl,trivial⟩ ⟨cG (congrArg (fun z:Nat=>some (⟨22,1,(aB (dg 4294967296 z)).map .t⟩:Ob)) (show x^(n.toNat/2^(13-(j+1)))=_ from(by rw[show 13-(j+1)=12-j by omega];exact hpw)).symm),rfl⟩⟩
 refine ex ?_;refine sq ?_;refine rl ?_;(iterate 3 refine o1 ?_);refine nl ?_;refine rt ?_;have he:eD n=0:=by unfold eD;rw[if_neg (by omega),if_neg (by omega)]
 have hj13:j=13:=by
  rcases Nat.lt_or_ge 12 j with h9 | h9
  ·omega
  have h8:=Em h9
  have h7:=Nat.pow_pos (n:=12-j) (show 0<2 by omega)
  omega
 subst hj13
 exact en (.inl rfl) rfl (fQ (.cons (.one (.sl (trs:=aB (dg 4294967296 (x^(n.toNat/2^(13-13))))) rfl rfl (jW _) (dD _))) (.cons (cY _) .nil))) (by decide) (fun _=>⟨.inl ⟨rfl,gF _⟩,trivial,trivial⟩) (by rw[he,cS,he,if_pos rfl,show n.toNat/2^(13-13)=n.toNat by simp];rfl)
theorem Oi {xs ys:List Nat}(hx:xs.length≤1000000) (hy:ys.length≤1000000):aJ true Tryz.prog 47 [] [nF xs,nF ys] (bC (.one (tv (.bool (decide (xs=ys)))))):=by
 refine cR Tryz.func47 rfl Tryz.ntmps47 rfl aG rfl fun N9 w9 c0 h0=>?_
 refine sq ?_;refine rl ?_;refine o1 ?_;refine nl ?_;refine sq ?_;refine sq ?_;refine rl ?_;(iterate 5 refine o1 ?_);refine nl ?_;refine bG rfl (fun h1=>?_) (fun h1=>?_)
 ·refine sq ?_;refine rl ?_;refine o1 ?_;refine nl ?_;refine rt ?_;exact cL (.inl rfl) rfl (Kh (by omega))
 refine sk ?_;refine sq ?_;refine sq ?_;refine rl ?_;refine o1 ?_;refine nl ?_;refine bl ?_
 refine lp (γ:=Nat) (fun k=>bO [(0,.one (.t (sU false xs))),(1,.one (.t (sU false ys))),(5,.one (tv (.int .i64 ((k:Nat):Int))))]) (fun k=>([]:List Ob).map some) (fun k=>k≤xs.length∧xs.take k=ys.take k) (fun k=>xs.length-k) 0 ⟨Nat.zero_le _,rfl⟩ (aZ h0 [] _ _ (by decide) ⟨rfl,rfl,rfl,trivial⟩ rfl) fun k hk=>?_
 refine sq ?_;refine sq ?_;refine rl ?_;(iterate 4 refine o1 ?_);refine nl ?_;refine bG rfl (fun h2=>?_) (fun h2=>?_)
 ·refine sk ?_;refine sq ?_;refine bl ?_;refine sq ?_;refine rd [] (fun i=>[].contains i) mixed ?_
  refine dv 0 ?_;refine dv 1 ?_;refine dv 2 ?_;refine eK 3 ([.v (.int .u32 ((nth xs (k):Nat):Int))]) (bU xs (k:=k) (by omega)) ?_
  refine dv 4 ?_;refine dv 5 ?_;refine dv 6 ?_;refine eK 7 ([.v (.int .u32 ((nth ys (k):Nat):Int))]) (bU ys (k:=k) (by omega)) ?_
  refine dv 8 ?_;refine mY ?_;refine bG rfl (fun h3=>?_) (fun h3=>?_)
  ·refine sq ?_;refine rl ?_;refine o1 ?_;refine nl ?_;refine rt ?_;exact cL (.inl rfl) rfl (Ki (k:=k) (by omega))
  refine sk ?_;refine rl ?_;refine o1 ?_;refine o1 ?_;refine WL.cast (t:=16) (u':=.int .i64 ((k+1:Nat):Int)) rfl (aD (by omega)) ?_
  refine o1 ?_;refine nl ?_;exact⟨k+1,by omega,⟨by omega,Gq hk.2 (by omega) (by omega) (by omega)⟩,aZ h0 [] _ _ (by decide) ⟨rfl,rfl,rfl,trivial⟩ rfl⟩
 refine ex ?_;refine sq ?_;refine rl ?_;refine o1 ?_;refine nl ?_;refine rt ?_;exact cL (.inl rfl) rfl (Kj (by omega) hk.2 (by omega))
theorem bN {xs ys:List Nat}(hx:xs.length≤1000000) (h:xs=ys):aJ true Tryz.prog 47 [] [nF xs,nF ys] (bC (.one (tv (.bool true)))):=by
 subst h
 have h:=Oi hx hx
 rw[decide_eq_true rfl]at h
 exact h
theorem zU:pZ Tryz.prog 138 16:=⟨3,by kernel_rfl,.mk (by kernel_rfl) (by kernel_rfl)⟩
theorem Kk:∀{t:Nat},t<16→((iU.map fun(n:Nat)=>Tr.v (.int .i64 (n:Int))).map AV.t)[t]? =some (tv (.int .i64 ((nth iU t:Nat):Int)))
 | 0,_=>rfl | 1,_=>rfl | 2,_=>rfl | 3,_=>rfl | 4,_=>rfl | 5,_=>rfl | 6,_=>rfl | 7,_=>rfl | 8,_=>rfl | 9,_=>rfl | 10,_=>rfl | 11,_=>rfl | 12,_=>rfl | 13,_=>rfl | 14,_=>rfl | 15,_=>rfl
 | n+16,h=>by omega
theorem Kl {t:Nat}(h:t≤15):nth iU t≤4:=by
 have:∀t≤15,nth iU t≤4:=by decide
 exact this t h
theorem Qt {l:List Nat}{V:Nat}(h1:Lim 4294967296 l) (h2:trim l=l) (h3:vl 4294967296 l=V):dg 4294967296 V=l:=by rw[←fL (by omega) h1 h3,h2]
theorem Eo {xs:List Nat}(hx:xs.length≤1000000):aJ false Tryz.prog 108 [] [nF xs] (bC (nF (trim xs))):=by
 refine cR Tryz.func108 rfl Tryz.ntmps108 rfl aG rfl fun N9 w9 c0 h0=>?_
 refine sq ?_;refine rl ?_;refine o1 ?_;refine nl ?_;refine sq ?_;refine bl ?_
 refine lp (γ:=List Nat) (fun s=>bO [(0,.one (.t (sU false s)))]) (fun s=>([]:List Ob).map some) (fun s=>(trim s=trim xs∧s.length≤xs.length)) (fun s=>s.length) xs (⟨rfl,Nat.le_refl _⟩) (aZ h0 [] _ _ (by decide) ⟨rfl,trivial⟩ rfl) ?_
 rintro zs hz;refine sq ?_;refine sq ?_;refine rl ?_;(iterate 4 refine o1 ?_);refine WL.split (t:=6) rfl (fun h1=>?_) (fun h1=>?_)
 ·(iterate 4 refine o1 ?_);refine WL.cast (t:=10) (u':=.int .i64 ((zs.length-1:Nat):Int)) rfl (aD (by omega)) ?_
  refine o1 ?_;refine jS ([.v (.int .u32 ((nth zs (zs.length-1):Nat):Int))]) (bU zs (k:=zs.length-1) (by omega)) ?_
  refine o1 ?_;refine o1 ?_;refine nl ?_;refine bG rfl (fun h2=>?_) (fun h2=>?_)
  ·refine sk ?_;refine bl ?_;refine rl ?_;(iterate 4 refine o1 ?_);refine WL.cast (t:=18) (u':=.int .i64 ((zs.length-1:Nat):Int)) rfl (aD (by omega)) ?_
   refine o1 ?_;refine o1 ?_;refine nl ?_
   exact⟨zs.take (zs.length-1),by rw[List.length_take];omega,⟨(by rw[kG (xs:=zs) (k:=zs.length) (by omega) (Nat.le_refl _) (by omega),List.take_length];exact hz.1),by rw[List.length_take];omega⟩,aZ h0 [] _ _ (by decide) ⟨(congrArg some (Oh (by omega)).symm),trivial⟩ rfl⟩
  refine ex ?_;refine sq ?_;refine rl ?_;refine o1 ?_;refine o1 ?_;refine nl ?_;refine rt ?_;refine en (.inl rfl) rfl (eA (.one (.id rfl))) (by decide) (fun h=>by cases h) ?_
  have hx9:trim xs=zs:=by
   rw[←hz.1];have h9:=kH (xs:=zs) (k:=zs.length) (by omega) (Nat.le_refl _) (by omega)
   rwa[List.take_length]at h9
  rw[hx9];rfl
 (iterate 7 refine dC ?_);refine o1 ?_;refine nl ?_;refine fU rfl ?_;refine ex ?_;refine sq ?_;refine rl ?_;refine o1 ?_;refine o1 ?_;refine nl ?_;refine rt ?_
 refine en (.inl rfl) rfl (eA (.one (.id rfl))) (by decide) (fun h=>by cases h) ?_
 have hx9:trim xs=zs:=by
  have h9:zs=[]:=List.eq_nil_of_length_eq_zero (by omega)
  rw[←hz.1,h9];rfl
 rw[hx9];rfl
theorem Ep:aJ false Tryz.prog 115 [] [] (bC (.agg ((iU.map fun(n:Nat)=>Tr.v (.int .i64 (n:Int))).map .t))):=by
 refine cR Tryz.func115 rfl Tryz.ntmps115 rfl aG rfl fun N9 w9 c0 h0=>?_
 refine sq ?_;refine rl ?_;refine al 0 ?_;refine nl ?_;refine sq ?_;refine rl ?_;refine bA zU ?_;refine st ?_;refine nl ?_;refine rt ?_
 exact en (.inl rfl) rfl (eA (.agg (.read _ (l:=iU.map fun(n:Nat)=>Tr.v (.int .i64 (n:Int))) rfl))) (by decide) (fun h=>by cases h) rfl
theorem Er {xs:List Nat}{u:Nat}(hx:Nn xs u):aJ true Tryz.prog 66 [] [nF xs] (bC (.one (tv (.int .i64 ((oY u:Nat):Int))))):=by
 refine cR Tryz.func66 rfl Tryz.ntmps66 rfl aG rfl fun N9 w9 c0 h0=>?_
 have hT:=hx.eqT
 have hXl:=Nn.len hx (Nat.le_refl _)
 have hx1:=hx.2.1
 refine sq ?_;refine rl ?_;refine o1 ?_;refine nl ?_;refine sq ?_;refine rl ?_;refine o1 ?_;refine ca (Eo hx.2.1) Ps ⟨a1 rfl,rfl⟩ (nF (trim xs)) ?_;refine o1 ?_;refine nl ?_
 refine sq ?_;refine sq ?_;rw[←hT];refine rl ?_;(iterate 3 refine o1 ?_);refine nl ?_;refine bG rfl (fun h1=>?_) (fun h1=>?_)
 ·refine sq ?_;refine rl ?_;refine o1 ?_;refine nl ?_;refine rt ?_;have hu0:u=0:=(bX (B:=4294967296) (by omega)).1 (List.eq_nil_of_length_eq_zero (by omega))
  exact en (.inl rfl) rfl (eA (cY _)) (by decide) (fun _=>trivial) (congrArg (fun z=>FV.one (tv (.int .i64 z))) (by rw[hu0];rfl))
 refine sk ?_;refine sq ?_;refine rd [] (fun i=>[11].contains i) mixed ?_
 refine dv 0 ?_;refine dv 1 ?_;refine dv 2 ?_;refine WD.cast (t:=12) (u':=.int .i64 (((dg 4294967296 (u)).length-1:Nat):Int)) rfl (aD (by omega)) ?_
 refine dv 3 ?_;refine WD.cast (t:=13) (u':=.int .i64 ((32*((dg 4294967296 (u)).length-1):Nat):Int)) rfl (aD (by omega)) ?_
 refine dv 4 ?_;refine dv 5 ?_;refine dv 6 ?_;refine dv 7 ?_;refine WD.cast (t:=17) (u':=.int .i64 (((dg 4294967296 (u)).length-1:Nat):Int)) rfl (aD (by omega)) ?_
 refine dv 8 ?_
 refine eK 9 ([.v (.int .u32 ((nth (dg 4294967296 (u)) ((dg 4294967296 (u)).length-1):Nat):Int))]) (bU (dg 4294967296 (u)) (k:=(dg 4294967296 (u)).length-1) (by omega)) ?_
 refine yU 10 (by kernel_rfl) rfl rfl aG rfl (by trivial) ?_ (fun h=>by first | rfl | cases h)
 refine yU 11 (by kernel_rfl) rfl rfl aG rfl (by trivial) ?_ (fun h=>by first | rfl | cases h)
 refine mY ?_;refine sq ?_;refine bl ?_
 refine lp (γ:=Nat×Nat) (fun s=>bO [(3,.one (tv (.int .i64 ((s.1:Nat):Int)))),(4,.one (tv (.int .u32 ((s.2:Nat):Int))))]) (fun s=>([]:List Ob).map some) (fun s=>s.1+jZ s.2=32*((dg 4294967296 (u)).length-1)+jZ (nth (dg 4294967296 (u)) ((dg 4294967296 (u)).length-1))∧s.2≤(nth (dg 4294967296 (u)) ((dg 4294967296 (u)).length-1))) (fun s=>s.2) (32*((dg 4294967296 (u)).length-1),(nth (dg 4294967296 (u)) ((dg 4294967296 (u)).length-1))) ⟨rfl,Nat.le_refl _⟩ (aZ h0 [] _ _ (by decide) ⟨rfl,rfl,trivial⟩ rfl) ?_
 rintro⟨m,t⟩ ⟨hm,ht⟩;dsimp only at hm ht⊢;have hb9:=Kf (n:=8) (t:=(nth (dg 4294967296 (u)) ((dg 4294967296 (u)).length-1))) (Lim.nth (bE (by omega) u) (by omega) _)
 have htl:=Lim.nth (bE (B:=4294967296) (by omega) u) (by omega) ((dg 4294967296 (u)).length-1)
 refine sq ?_;refine sq ?_;refine rl ?_;refine o1 ?_;refine o1 ?_;refine nl ?_;refine bG rfl (fun h2=>?_) (fun h2=>?_)
 ·refine sk ?_;refine bl ?_;refine sq ?_;refine rl ?_;refine o1 ?_;refine o1 ?_;refine WL.cast (t:=23) (u':=.int .u32 (((t/16):Nat):Int)) rfl (aD Sx) ?_;refine o1 ?_
  refine nl ?_;refine rl ?_;refine o1 ?_;refine o1 ?_;refine WL.cast (t:=25) (u':=.int .i64 ((m+4:Nat):Int)) rfl (aD (by omega)) ?_
  refine o1 ?_;refine nl ?_;have hbs:=xG (t:=t) (by omega)
  exact⟨(m+4,t/16),by dsimp only;omega,⟨(by dsimp only;omega),(by dsimp only;omega)⟩,aZ h0 [] _ _ (by decide) ⟨rfl,rfl,trivial⟩ rfl⟩
 refine ex ?_;refine sq ?_;refine rl ?_;refine o1 ?_;refine ca (Ep) Pv rfl ((.agg ((iU.map fun(n:Nat)=>Tr.v (.int .i64 (n:Int))).map .t))) ?_
 refine o1 ?_;have ht16:t<16:=by omega
 have hbt:=Kl (t:=t) (by omega)
 refine To zU ht16 (Kk ht16) ?_;refine o1 ?_;refine WL.cast (t:=30) (u':=.int .i64 ((m+(nth iU t):Nat):Int)) rfl (aD (by omega)) ?_
 refine o1 ?_;refine nl ?_;refine rt ?_;have hu0:u≠0:=Nat.pos_iff_ne_zero.1 (iX (B:=4294967296) (u:=u) (by omega))
 rw[rL (by omega)]at hm
 exact en (.inl rfl) rfl (eA (cY _)) (by decide) (fun _=>trivial) (congrArg (fun z=>FV.one (tv (.int .i64 z))) (by unfold oY;rw[if_neg hu0,←hm]))
theorem Es {l:List Nat}(h:dT l=false):tx (aW l)=l:=by
 by_cases h48:l=[48]
 ·subst h48;rfl
 have hd:=rG h
 have h0:nth l 0≠48:=fun e=>by rw[Bs (decide_eq_false h48) e]at h;cases h
 have hne:l≠[]:=fun e=>by rw[Br (decide_eq_true e)]at h;cases h
 have e1:l=(bT (l.map (· -48)).reverse).reverse:=by
  unfold bT
  rw[←List.map_reverse,List.reverse_reverse,List.map_map]
  refine(List.ext_getElem (by simp) fun i h1 h2=>?_)
  have:=hd l[i] (List.getElem_mem h1)
  simp
  omega
 have hl:Lim 10 (l.map (· -48)).reverse:=fun x hx=>by
  obtain⟨c,hc,rfl⟩:=List.mem_map.1 (List.mem_reverse.1 hx)
  have:=hd c hc
  omega
 have e2:=uS (v:=aW l) hl (by rw[←zP,←e1])
 rw[←e1]at e2
 have e3:l.dropWhile (· ==48)=l:=by
  cases l with
  | nil=>rfl
  | cons c m=>
   have:c≠48:=h0
   rw[List.dropWhile_cons,if_neg (by simpa using this)]
 rw[e3]at e2
 by_cases hv:aW l=0
 ·rw[if_pos hv]at e2
  exact absurd e2 hne
 rw[if_neg hv]at e2
 exact e2.symm
def Ri (l:List Nat) (V:Nat):Bool:=l.all (fun x=>decide (x<4294967296))&&decide (l.length≤1000000)&&decide (vl 4294967296 l=V)
theorem Et {l:List Nat}{V:Nat}(h:Ri l V=true):Nn l V:=by
 simp only[Ri,Bool.and_eq_true,decide_eq_true_eq,List.all_eq_true]at h
 exact⟨h.1.1,h.1.2,h.2⟩
def Rj (l:List (List Nat)):Bool:=l.all fun xs=>xs.all (fun x=>decide (x<4294967296))&&decide (xs.length≤1000)
theorem Tv {l:List (List Nat)}(h:Rj l=true):RL 1000 l:=by
 intro xs hx
 simp only[Rj,List.all_eq_true,Bool.and_eq_true,decide_eq_true_eq]at h
 exact h xs hx
theorem zV {l:List Nat}{V:Nat}(h:(l.all (fun x=>decide (x<4294967296))&&decide (trim l=l)&&decide (vl 4294967296 l=V))=true):dg 4294967296 V=l:=by
 simp only[Bool.and_eq_true,decide_eq_true_eq,List.all_eq_true]at h
 exact Qt h.1.1 h.1.2 h.2
theorem kA {l:List Nat}{V:Nat}{e:Int}(hl:Lim 256 l) (hn:l.length≤9223372036854775807) (hv:dK l=V) (he:eR l=e):aJ true Tryz.prog 9 [] [.one (tv (.string (aH l)))] (bC (.tup [nO V,.one (tv (.int .i64 e))])):=hv▸he▸jF hl hn
theorem iN {x:Nat}{n:Int}{V:Nat}{e:Int}(hx:x<4294967296) (hv:cS x n=V) (he:eD n=e):aJ true Tryz.prog 11 [] [.one (tv (.int .u32 ((x:Nat):Int))),.one (tv (.int .i64 n))] (bC (.tup [nO V,.one (tv (.int .i64 e))])):=hv▸he▸rM hx
theorem Id {v:Nat}(h:(tx v).length≤4096):eR (tx v)=0∧dK (tx v)=v:=by
 have h1:=xD (Kc v) (by omega)
 exact⟨h1,by rw[oW h1,Oa]⟩
theorem zW {l:List Nat}(h:eR l=0):tx (dK l)=l:=by
 have hg:dT l=false:=by
  cases hq:dT l with
  | false=>rfl
  | true=>rw[iY hq]at h;cases h
 rw[oW h,Es hg]
theorem tD (l:List Nat):(dg 4294967296 (dK l)).length≤l.length:=by
 by_cases h:eR l=0
 ·rw[oW h]
  have hg:dT l=false:=by
   cases hq:dT l with
   | false=>rfl
   | true=>rw[iY hq]at h;cases h
  have h1:=lS (rG hg) (Nat.le_refl _)
  rwa[List.take_of_length_le (Nat.le_refl _)]at h1
 rw[fX h];exact Nat.zero_le _
theorem zX {v L:Nat}(h:(dg 4294967296 v).length≤L) (hL:1≤L):(tx v).length≤10*L:=by
 have h1:=dW (B:=4294967296) (n:=v) (by omega)
 have h2:v<10^(10*(dg 4294967296 v).length):=Nat.lt_of_lt_of_le h1 (by rw[Nat.pow_mul];exact Nat.pow_le_pow_left (by omega) _)
 have h3:=aF (B:=10) (by omega) h2
 unfold tx
 split
 ·simp;omega
 rw[List.length_reverse,dM];omega
theorem rN {B:Nat}{l:List Nat}{k:Nat}(hB:0<B) (h:k≤l.length):vl B (l.drop k)≤vl B l:=by
 rw[jG B l k h]
 have:=Nat.le_mul_of_pos_left (vl B (l.drop k)) (Nat.pow_pos (n:=k) hB)
 omega
def sB (xs:List Nat):Tr:=.s false 5 1 xs.length (aV xs)
abbrev bR (xs:List Nat):FV:=.one (.t (sB xs))
theorem Eu {xs:List Nat}{m:Nat}(h:m≤xs.length):FV.one (.t (.s false 5 1 m ((aV xs).take (m*1))))=bR (xs.take m):=by
 unfold bR sB aV
 rw[Nat.mul_one,←List.map_take,List.length_take,Nat.min_eq_left h]
theorem rO {x:Cx}{g:Nat→FV}{ob:List (Option Ob)}{i k n:Nat}{zs zs':List Nat}(hi:Nat.blt i x.n=true) (hg:g i=.one (.sl k 0 n)) (ho:bI ob k=some ⟨5,1,(aV zs).map .t⟩) (hn:n=zs.length) (he:zs=zs'):Sub x g ob (aK g i (bR zs')) (ob.set k none):=by
 subst hn he
 exact fz hi hg ho (by rw[fN,Nat.mul_one])
theorem Sy {x:Cx}{g:Nat→FV}{ob:List (Option Ob)}{j t z:Nat}{l l':List AV}(ho:bI ob j=some ⟨t,z,l⟩) (hl:l=l'):Sub x g ob g (ob.set j (some ⟨t,z,l'⟩)):=by
 subst hl
 have e:ob.set j (some ⟨t,z,l⟩)=ob:=by
  refine List.ext_getElem? fun i=>?_
  rw[List.getElem?_set]
  split
  ·rename_i h
   subst h
   have h2:=bS ho
   rw[if_pos (List.getElem?_eq_some_iff.1 h2).1]
   exact h2.symm
  rfl
 rw[e]
 exact fun ts W h=>h
theorem Hb {x:Cx}{g:Nat→FV}{ob:List (Option Ob)}{i:Nat}{v:FV}(hi:Nat.blt i x.n=true) (h:g i=v):Sub x g ob (aK g i v) ob:=Mv hi fun _ _ _ _ hu=>h▸hu
theorem gI {u v L:Nat}(h:u≤v) (hv:(dg 2 v).length≤L):(dg 2 u).length≤L:=Nat.le_trans (cU (by omega) h) hv
theorem zY {u v L:Nat}(hu:(dg 2 u).length≤L) (hv:(dg 2 v).length≤L):(dg 2 (u+v)).length≤L+1:=by
 have h1:=dW (B:=2) (n:=u) (by omega)
 have h2:=dW (B:=2) (n:=v) (by omega)
 have h3:=Nat.pow_le_pow_right (n:=2) (by omega) hu
 have h4:=Nat.pow_le_pow_right (n:=2) (by omega) hv
 exact aF (by omega) (by rw[Nat.pow_succ];omega)
theorem oZ (u v:Nat):(dg 2 (u*v)).length≤(dg 2 u).length+(dg 2 v).length:=by
 have h1:=dW (B:=2) (n:=u) (by omega)
 have h2:=dW (B:=2) (n:=v) (by omega)
 exact aF (by omega) (by rw[Nat.pow_add];exact Nat.mul_lt_mul'' h1 h2)
theorem eX {u L:Nat}(h:(dg 4294967296 u).length≤L):(dg 2 u).length≤32*L:=by
 have h1:=dW (B:=4294967296) (n:=u) (by omega)
 refine aF (by omega) (Nat.lt_of_lt_of_le h1 ?_)
 rw[Nat.pow_mul]
 exact Nat.pow_le_pow_right (by decide) h
theorem kB {u L:Nat}(h:(dg 2 u).length≤32*L):(dg 4294967296 u).length≤L:=by
 have h1:=dW (B:=2) (n:=u) (by omega)
 refine aF (by omega) (Nat.lt_of_lt_of_le h1 ?_)
 rw[show(4294967296:Nat)=2^32 from rfl,←Nat.pow_mul]
 exact Nat.pow_le_pow_right (by decide) h
theorem Km {d u:Nat}(hd:d<2):trim (d::dg 2 u)=dg 2 (2*u+d):=fL (by omega) (Lim.cons hd (bE (by omega) u)) (by rw[cT,bL (by omega)];omega)
theorem rP {u:Nat}(h:(dg 2 u).length=0):u=0:=(bX (by omega)).1 (List.eq_nil_of_length_eq_zero h)
theorem xH {u:Nat}(h:0<(dg 2 u).length):u≠0:=fun e=>by rw[e]at h;simp[fK]at h
theorem rQ {s:Nat}(h:s<256):IntKind.u8.wrap ((BitVec.ofInt IntKind.u8.bits (s:Int)&&& BitVec.ofInt IntKind.u8.bits (1:Int)).toNat:Int)=((s%2:Nat):Int):=by
 have e:IntKind.u8.bits=8:=rfl
 rw[e,BitVec.toNat_and,BitVec.ofInt_natCast,show BitVec.ofInt 8 (1:Int)=1#8 from rfl,BitVec.toNat_ofNat,BitVec.toNat_ofNat,Nat.mod_eq_of_lt (by omega)]
 have h1:s&&&(1%2^8)=s%2:=by rw[show 1%2^8=1 from rfl,Nat.and_one_is_mod]
 rw[h1]
 simp[IntKind.wrap,IntKind.signed,IntKind.bits]
 omega
theorem Kn {s:Nat}(h:s<4294967296):IntKind.u32.wrap ((BitVec.ofInt IntKind.u32.bits (s:Int)&&& BitVec.ofInt IntKind.u32.bits (1:Int)).toNat:Int)=((s%2:Nat):Int):=by
 have e:IntKind.u32.bits=32:=rfl
 rw[e,BitVec.toNat_and,BitVec.ofInt_natCast,show BitVec.ofInt 32 (1:Int)=1#32 from rfl,BitVec.toNat_ofNat,BitVec.toNat_ofNat,Nat.mod_eq_of_lt (by omega)]
 have h1:s&&&(1%2^32)=s%2:=by rw[show 1%2^32=1 from rfl,Nat.and_one_is_mod]
 rw[h1]
 simp[IntKind.wrap,IntKind.signed,IntKind.bits]
 omega
theorem rR {s:Nat}:Int.fdiv (s:Int) (2^(min (1:Int).toNat IntKind.u8.bits))=((s/2:Nat):Int):=by
 have e:(2:Int)^(min (1:Int).toNat IntKind.u8.bits)=((2:Nat):Int):=by decide
 rw[e,Int.fdiv_eq_ediv,if_pos (Or.inl (by omega)),Int.sub_zero,←Int.natCast_ediv]
theorem Qu {x k:Nat}(h:k<32):Int.fdiv (x:Int) (2^(min ((k:Nat):Int).toNat IntKind.u32.bits))=((x/2^k:Nat):Int):=by
 have e0:min ((k:Nat):Int).toNat IntKind.u32.bits=k:=by simp[IntKind.bits];omega
 rw[e0,show(2:Int)^k=((2^k:Nat):Int) by simp]
 generalize 2^k=m
 rw[Int.fdiv_eq_ediv,if_pos (Or.inl (Int.natCast_nonneg m)),Int.sub_zero,←Int.natCast_ediv]
theorem Ie {d s:Nat}(hd:d<2) (hs:s<32):IntKind.u32.wrap ((d:Int)*2^(min ((s:Nat):Int).toNat IntKind.u32.bits))=((d*2^s:Nat):Int):=by
 have e0:min ((s:Nat):Int).toNat IntKind.u32.bits=s:=by simp[IntKind.bits];omega
 have h1:d*2^s<4294967296:=by
  have h2:2^s≤2^31:=Nat.pow_le_pow_right (by omega) (by omega)
  have h3:d*2^s≤1*2^31:=Nat.mul_le_mul (by omega) h2
  omega
 rw[e0,show(2:Int)^s=((2^s:Nat):Int) by simp,←Int.natCast_mul]
 generalize d*2^s=m at h1⊢
 simp[IntKind.wrap,IntKind.signed,IntKind.bits]
 omega
theorem oF {X Y os:List Nat}{k cr:Nat}(hl:os.length=k) (h:vl 2 os+2^k*cr=vl 2 (X.take k)+vl 2 (Y.take k)):
  vl 2 (os++[(nth X k+nth Y k+cr)%2])+2^(k+1)*((nth X k+nth Y k+cr)/2)=vl 2 (X.take (k+1))+vl 2 (Y.take (k+1)):=by
 rw[fA,aN,aN,hl,Nat.pow_succ,Nat.mul_assoc]
 have h2:=Nat.mod_add_div (nth X k+nth Y k+cr) 2
 have h3:2^k*(nth X k+nth Y k+cr)=2^k*((nth X k+nth Y k+cr)%2)+2^k*(2*((nth X k+nth Y k+cr)/2)):=by rw[←Nat.mul_add,h2]
 rw[Nat.mul_add,Nat.mul_add]at h3
 omega
theorem Ew {X Y os:List Nat}{k br br' d:Nat}(hl:os.length=k) (h:vl 2 os+vl 2 (Y.take k)=vl 2 (X.take k)+2^k*br) (hd:d+nth Y k+br=nth X k+2*br'):
  vl 2 (os++[d])+vl 2 (Y.take (k+1))=vl 2 (X.take (k+1))+2^(k+1)*br':=by
 rw[fA,aN,aN,hl,Nat.pow_succ,Nat.mul_assoc]
 have h3:2^k*(d+nth Y k+br)=2^k*(nth X k+2*br'):=by rw[hd]
 rw[Nat.mul_add,Nat.mul_add,Nat.mul_add]at h3
 omega
theorem Ex {xs os:List Nat}{i k:Nat}(hl:os.length=32*i+k) (h:vl 2 os=vl 4294967296 (xs.take i)+2^(32*i)*(nth xs i%2^k)):
  vl 2 (os++[nth xs i/2^k%2])=vl 4294967296 (xs.take i)+2^(32*i)*(nth xs i%2^(k+1)):=by
 rw[fA,hl,h,Nat.mod_pow_succ,Nat.pow_add,Nat.mul_add,Nat.mul_assoc]
 omega
theorem Ey {xs os:List Nat}{i:Nat}(hx:nth xs i<4294967296) (h:vl 2 os=vl 4294967296 (xs.take i)+2^(32*i)*(nth xs i%2^32)):vl 2 os=vl 4294967296 (xs.take (i+1)):=by
 rw[h,aN,Nat.mod_eq_of_lt hx,Nat.pow_mul]
theorem zZ {u v:Nat}(h:(dg 2 u).length<(dg 2 v).length):u<v:=by
 rcases Nat.lt_or_ge u v with h1 | h1
 ·exact h1
 have:=cU (B:=2) (by omega) h1;omega
theorem Ez {X Y:List Nat}{k:Nat}(hX:Lim 2 X) (hk:∀j,k+1≤j→nth X j=nth Y j) (h:nth X k<nth Y k):vl 2 X<vl 2 Y:=by
 have hS:∀m,vl 2 (X.take (k+1+m))+vl 2 (Y.take (k+1))=vl 2 (Y.take (k+1+m))+vl 2 (X.take (k+1)):=by
  intro m
  induction m with
  | zero=>exact Nat.add_comm _ _
  | succ m ih=>
   rw[←Nat.add_assoc,aN 2 X (k+1+m),aN 2 Y (k+1+m),hk (k+1+m) (by omega)]
   omega
 have h1:=hS (X.length+Y.length)
 rw[aQ 2 (l:=X) (k:=k+1+(X.length+Y.length)) (by omega),aQ 2 (l:=Y) (k:=k+1+(X.length+Y.length)) (by omega)]at h1
 have h2:vl 2 (X.take (k+1))<vl 2 (Y.take (k+1)):=by
  rw[aN,aN]
  have h3:=dQ (hX.take k)
  have h4:2^(X.take k).length≤2^k:=Nat.pow_le_pow_right (by omega) (by rw[List.length_take];omega)
  have h5:2^k*(nth X k+1)≤2^k*nth Y k:=Nat.mul_le_mul_left _ h
  rw[Nat.mul_add]at h5
  omega
 omega
theorem Ko {X Y:List Nat}(h:∀j,nth X j=nth Y j):vl 2 X=vl 2 Y:=by
 have hS:∀m,vl 2 (X.take m)=vl 2 (Y.take m):=by
  intro m
  induction m with
  | zero=>rfl
  | succ m ih=>rw[aN,aN,ih,h]
 have h1:=hS (X.length+Y.length)
 rwa[aQ 2 (l:=X) (k:=X.length+Y.length) (by omega),aQ 2 (l:=Y) (k:=X.length+Y.length) (by omega)]at h1
theorem Aa (B:Nat):∀{l:List Nat}{j v:Nat},j<l.length→vl B (l.set j v)+B^j*nth l j=vl B l+B^j*v
 | [],j,v,h=>by simp at h
 | d::l,0,v,h=>by
  rw[List.set_cons_zero,cT,cT,Nat.pow_zero,Nat.one_mul,Nat.one_mul]
  show v+B*vl B l+d=d+B*vl B l+v
  omega
 | d::l,j+1,v,h=>by
  have ih:=Aa B (l:=l) (j:=j) (v:=v) (by simpa using h)
  rw[List.set_cons_succ,cT,cT,Nat.pow_succ,Nat.mul_comm (B^j),Nat.mul_assoc,Nat.mul_assoc]
  have e:nth (d::l) (j+1)=nth l j:=rfl
  rw[e]
  have:=congrArg (B* ·) ih
  simp only[Nat.mul_add]at this
  omega
theorem If (B:Nat):∀(l:List Nat) (j:Nat),B^j*nth l j≤vl B l
 | [],j=>by simp[nth,vl]
 | d::l,0=>by
  show B^0*d≤d+B*vl B l
  rw[Nat.pow_zero,Nat.one_mul]
  omega
 | d::l,j+1=>by
  have ih:=If B l j
  rw[cT,Nat.pow_succ,Nat.mul_comm (B^j),Nat.mul_assoc]
  have e:nth (d::l) (j+1)=nth l j:=rfl
  rw[e]
  have:=Nat.mul_le_mul_left B ih
  omega
theorem Ig (i:Nat):2^i=4294967296^(i/32)*2^(i%32):=by
 rw[show(4294967296:Nat)=2^32 from rfl,←Nat.pow_mul,←Nat.pow_add,Nat.div_add_mod]
theorem Ab {ws X:List Nat}{i:Nat}(hX:Lim 2 X) (h:vl 4294967296 ws=vl 2 (X.take i)):nth ws (i/32)<2^(i%32):=by
 have h1:=If 4294967296 ws (i/32)
 have h2:=dQ (hX.take i)
 have h3:2^(X.take i).length≤2^i:=Nat.pow_le_pow_right (by omega) (by rw[List.length_take];omega)
 rw[Ig i]at h3
 exact Nat.lt_of_mul_lt_mul_left (a:=4294967296^(i/32)) (by omega)
theorem uF {ws X:List Nat}{i:Nat}(hw:i/32<ws.length) (h:vl 4294967296 ws=vl 2 (X.take i)):vl 4294967296 (ws.set (i/32) (nth ws (i/32)+nth X i*2^(i%32)))=vl 2 (X.take (i+1)):=by
 have h1:=Aa 4294967296 (v:=nth ws (i/32)+nth X i*2^(i%32)) hw
 rw[Nat.mul_add]at h1
 have h2:4294967296^(i/32)*(nth X i*2^(i%32))=2^i*nth X i:=by
  conv=>rhs;rw[Ig i]
  rw[Nat.mul_assoc,Nat.mul_comm (nth X i)]
 rw[aN]
 omega
theorem Fa {ws:List Nat}{u:Nat}(hl:Lim 4294967296 ws) (hv:vl 4294967296 ws=u) (hn:ws.length=((dg 2 u).length+31)/32):ws=dg 4294967296 u:=by
 have h1:=fL (by omega) hl hv
 have h2:=iB ws
 have h3:ws.length≤(dg 4294967296 u).length:=by
  by_cases h0:u=0
  ·subst h0;rw[hn];simp[fK]
  have h4:=Ox (B:=2) (n:=u) (by omega) h0
  have h5:=dW (B:=4294967296) (n:=u) (by omega)
  rw[show(4294967296:Nat)=2^32 from rfl,←Nat.pow_mul]at h5
  have h6:=(Nat.pow_lt_pow_iff_right (a:=2) (by omega)).1 (Nat.lt_of_le_of_lt h4 h5)
  rw[hn]
  rw[show(2:Nat)^32=4294967296 from rfl]at h6
  omega
 rw[←h1]at h3⊢
 rw[←h2,List.take_of_length_le h3]
theorem Oj {xs:List Nat}(hx:xs.length≤1000000):aJ false Tryz.prog 60 [] [bR xs] (bC (bR (trim xs))):=by
 refine cR Tryz.func60 rfl Tryz.ntmps60 rfl aG rfl fun N9 w9 c0 h0=>?_
 refine sq ?_;refine rl ?_;refine o1 ?_;refine nl ?_;refine sq ?_;refine rl ?_;(iterate 3 refine o1 ?_);refine nl ?_;refine sq ?_;refine bl ?_
 refine lp (γ:=Nat) (fun s=>bO [(0,.one (.t (.s false 5 1 xs.length (aV xs)))),(3,.one (tv (.int .i64 ((s:Nat):Int))))]) (fun s=>([]:List Ob).map some) (fun s=>s≤xs.length∧trim (xs.take s)=trim xs) (fun s=>s) (xs.length) (⟨Nat.le_refl _,by rw[List.take_length]⟩) (aZ h0 [] _ _ (by decide) ⟨rfl,rfl,trivial⟩ rfl) ?_
 rintro n hn;refine sq ?_;refine sq ?_;refine rl ?_;(iterate 3 refine o1 ?_);refine WL.split (t:=8) rfl (fun h1=>?_) (fun h1=>?_)
 ·(iterate 3 refine o1 ?_);refine WL.cast (t:=11) (u':=.int .i64 ((n-1:Nat):Int)) rfl (aD (by omega)) ?_
  refine o1 ?_;refine jS ([.v (.int .u8 ((nth xs (n-1):Nat):Int))]) (gP xs (k:=n-1) (by omega)) ?_
  refine o1 ?_;refine o1 ?_;refine nl ?_;refine bG rfl (fun h2=>?_) (fun h2=>?_)
  ·refine sk ?_;refine bl ?_;refine rl ?_;refine o1 ?_;refine o1 ?_;refine WL.cast (t:=17) (u':=.int .i64 ((n-1:Nat):Int)) rfl (aD (by omega)) ?_
   refine o1 ?_;refine nl ?_;exact⟨n-1,by omega,⟨by omega,(kG (xs:=xs) (k:=n) (by omega) (by omega) (by omega)).trans hn.2⟩,aZ h0 [] _ _ (by decide) ⟨rfl,rfl,trivial⟩ rfl⟩
  refine ex ?_;refine sq ?_;refine rl ?_;(iterate 4 refine o1 ?_);refine nl ?_;refine rt ?_;refine en (.inl rfl) rfl (eA (.one (.id rfl))) (by decide) (fun h=>by cases h) ?_
  have hx9:trim xs=xs.take n:=by
   rw[←hn.2];exact kH (by omega) hn.1 (by omega)
  rw[hx9];exact Eu hn.1
 (iterate 6 refine dC ?_);refine o1 ?_;refine nl ?_;refine fU rfl ?_;refine ex ?_;refine sq ?_;refine rl ?_;(iterate 4 refine o1 ?_);refine nl ?_;refine rt ?_
 refine en (.inl rfl) rfl (eA (.one (.id rfl))) (by decide) (fun h=>by cases h) ?_
 have hx9:trim xs=xs.take n:=by
  rw[←hn.2,show n=0 by omega]
  rfl
 rw[hx9];exact Eu hn.1
theorem fC {xs:List Nat}{v:Nat}(hx:xs.length≤1000000) (h:trim xs=dg 2 v):aJ false Tryz.prog 60 [] [bR xs] (bC (bR (dg 2 (v)))):=h▸Oj hx
theorem gJ {xs:List Nat}{k:Nat}:aJ true Tryz.prog 110 [] [bR xs,.one (tv (.int .i64 ((k:Nat):Int)))] (bC (.one (tv (.int .u8 ((nth xs k:Nat):Int))))):=by
 refine cR Tryz.func110 rfl Tryz.ntmps110 rfl aG rfl fun N9 w9 c0 h0=>?_
 refine sq ?_;refine rl ?_;refine o1 ?_;refine nl ?_;refine sq ?_;refine sq ?_;refine rl ?_;(iterate 3 refine o1 ?_);refine WL.split (t:=7) rfl (fun h1=>?_) (fun h1=>?_)
 ·omega
 (iterate 5 refine o1 ?_);refine nl ?_;refine bG rfl (fun h2=>?_) (fun h2=>?_)
 ·refine sq ?_;refine rl ?_;refine o1 ?_;refine nl ?_;refine rt ?_
  exact en (.inl rfl) rfl (eA (cY _)) (by decide) (fun _=>trivial) (congrArg (fun z=>FV.one (tv (.int .u8 z))) (by rw[dF (by omega)];rfl))
 refine sk ?_;refine sq ?_;refine rl ?_;(iterate 3 refine o1 ?_);refine jS ([.v (.int .u8 ((nth xs (k):Nat):Int))]) (gP xs (k:=k) (by omega)) ?_
 refine o1 ?_;refine nl ?_;refine rt ?_;exact en (.inl rfl) rfl (eA (cY _)) (by decide) (fun _=>trivial) (congrArg (fun z=>FV.one (tv (.int .u8 z))) (rfl))
theorem Ih {u v:Nat}(hu:(dg 2 (u)).length≤900000) (hv:(dg 2 (v)).length≤900000):aJ false Tryz.prog 52 [] [(bR (dg 2 (u))),(bR (dg 2 (v)))] (bC (bR (dg 2 (u+v)))):=by
 refine cR Tryz.func52 rfl Tryz.ntmps52 rfl aG rfl fun N9 w9 c0 h0=>?_
 have hX:=bE (B:=2) (by omega) u
 have hY:=bE (B:=2) (by omega) v
 have hvX:=bL (B:=2) (by omega) u
 have hvY:=bL (B:=2) (by omega) v
 obtain⟨X,hXe⟩:∃X,dg 2 u=X:=⟨_,rfl⟩
 obtain⟨Y,hYe⟩:∃Y,dg 2 v=Y:=⟨_,rfl⟩
 rw[hXe]at hX hvX hu⊢;rw[hYe]at hY hvY hv⊢;refine sq ?_;refine rl ?_;refine o1 ?_;refine nl ?_;refine sq ?_;refine rl ?_;refine o1 ?_;refine nl ?_;refine sq ?_;refine rl ?_
 refine o1 ?_;refine nl ?_;refine sq ?_;refine sq ?_;refine rl ?_;refine o1 ?_;refine nl ?_;refine bl ?_
 refine lp (γ:=Nat×Nat×List Nat) (fun s=>bO [(0,.one (.t (.s false 5 1 X.length (aV X)))),(1,.one (.t (.s false 5 1 Y.length (aV Y)))),(5,.one (.sl 0 0 (s.1))),(6,.one (tv (.int .u8 ((s.2.1:Nat):Int)))),(7,.one (tv (.int .i64 ((s.1:Nat):Int))))]) (fun s=>[(⟨5,1,(aV s.2.2).map .t⟩:Ob)].map some) (fun s=>s.2.2.length=s.1∧Lim 2 s.2.2∧vl 2 s.2.2+2^s.1*s.2.1=vl 2 (X.take s.1)+vl 2 (Y.take s.1)∧s.2.1≤1∧(s.1≤max X.length Y.length∨s.1=max X.length Y.length+1∧s.2.1=0)) (fun s=>max X.length Y.length+1-s.1) (0,0,[]) ⟨rfl,Lim.nil,rfl,Nat.zero_le _,.inl (Nat.zero_le _)⟩ ((nr (i:=5) 0 5 1 rfl rfl rfl rfl).trans (aZ h0 [0] _ _ (by decide) ⟨rfl,rfl,rfl,rfl,rfl,trivial⟩ ⟨cG (l:=[]) rfl,rfl⟩)) ?_
 rintro⟨k,cr,os⟩ ⟨hos,hol,hv2,hc,hkm⟩;dsimp only at hos hol hv2 hc hkm⊢;have hn1:=hX.nth (by omega) k
 have hn2:=hY.nth (by omega) k
 refine sq ?_;refine sq ?_;refine rl ?_;(iterate 5 refine o1 ?_);refine WL.split (t:=13) rfl (fun h1=>?_) (fun h1=>?_)
 ·(iterate 4 refine dC ?_);refine o1 ?_;refine o1 ?_;refine dC ?_;refine dC ?_;refine o1 ?_;refine nl ?_;refine gT rfl ?_;refine sk ?_;refine sq ?_;refine bl ?_;refine sq ?_
  refine rl ?_;refine o1 ?_;refine o1 ?_;refine ca (gJ (xs:=X) (k:=k)) kO ⟨a1 rfl,a1 rfl,rfl⟩ (.one (tv (.int .u8 ((nth X (k):Nat):Int)))) ?_;refine o1 ?_;refine o1 ?_
  refine ca (gJ (xs:=Y) (k:=k)) kO ⟨a1 rfl,a1 rfl,rfl⟩ (.one (tv (.int .u8 ((nth Y (k):Nat):Int)))) ?_;refine o1 ?_
  refine WL.cast (t:=31) (u':=.int .u8 (((nth X (k))+(nth Y (k)):Nat):Int)) rfl (aD (by omega)) ?_
  refine o1 ?_;refine o1 ?_;refine WL.cast (t:=33) (u':=.int .u8 (((nth X (k))+(nth Y (k))+cr:Nat):Int)) rfl (aD (by omega)) ?_
  refine o1 ?_;refine nl ?_;refine sq ?_;refine rl ?_;(iterate 3 refine o1 ?_)
  refine WL.cast (t:=36) (u':=.int .u8 ((((nth X k+nth Y k+cr)%2):Nat):Int)) rfl (aD (rQ (by omega))) ?_
  refine bs 1 ?_;refine kN (j:=2) aG rfl rfl rfl rfl (.sl rfl (by rw[List.length_map,fN,hos];omega)) (.sl rfl rfl rfl) rfl rfl rfl (by omega) (by omega) ?_
  refine o1 ?_;refine nl ?_;refine rl ?_;refine o1 ?_;refine o1 ?_;refine WL.cast (t:=40) (u':=.int .u8 ((((nth X k+nth Y k+cr)/2):Nat):Int)) rfl (aD rR) ?_;refine o1 ?_
  refine nl ?_;refine rl ?_;refine o1 ?_;refine o1 ?_;refine WL.cast (t:=24) (u':=.int .i64 ((k+1:Nat):Int)) rfl (aD (by omega)) ?_
  refine o1 ?_;refine nl ?_;have hst:=oF hos hv2
  have hz1:X.length≤k→nth X k=0:=fun h=>dF (by omega)
  have hz2:Y.length≤k→nth Y k=0:=fun h=>dF (by omega)
  exact⟨(k+1,(nth X k+nth Y k+cr)/2,os++[(nth X k+nth Y k+cr)%2]),by dsimp only;omega,⟨by simp[hos],hol.append (Lim.cons (Nat.mod_lt _ (by omega)) Lim.nil),hst,by dsimp only;omega,by dsimp only;omega⟩,aZ h0 [2] _ _ (by decide) ⟨rfl,rfl,rfl,rfl,rfl,trivial⟩ ⟨cG (congrArg (fun l:List AV=>some (⟨5,1,l⟩:Ob)) (lM os [(nth X k+nth Y k+cr)%2])),rfl⟩⟩
 (iterate 6 refine o1 ?_);refine WL.split (t:=19) rfl (fun h2=>?_) (fun h2=>?_)
 ·refine dC ?_;refine dC ?_;refine o1 ?_;refine nl ?_;refine gT rfl ?_;refine sk ?_;refine sq ?_;refine bl ?_;refine sq ?_;refine rl ?_;refine o1 ?_;refine o1 ?_
  refine ca (gJ (xs:=X) (k:=k)) kO ⟨a1 rfl,a1 rfl,rfl⟩ (.one (tv (.int .u8 ((nth X (k):Nat):Int)))) ?_;refine o1 ?_;refine o1 ?_
  refine ca (gJ (xs:=Y) (k:=k)) kO ⟨a1 rfl,a1 rfl,rfl⟩ (.one (tv (.int .u8 ((nth Y (k):Nat):Int)))) ?_;refine o1 ?_
  refine WL.cast (t:=31) (u':=.int .u8 (((nth X (k))+(nth Y (k)):Nat):Int)) rfl (aD (by omega)) ?_
  refine o1 ?_;refine o1 ?_;refine WL.cast (t:=33) (u':=.int .u8 (((nth X (k))+(nth Y (k))+cr:Nat):Int)) rfl (aD (by omega)) ?_
  refine o1 ?_;refine nl ?_;refine sq ?_;refine rl ?_;(iterate 3 refine o1 ?_)
  refine WL.cast (t:=36) (u':=.int .u8 ((((nth X k+nth Y k+cr)%2):Nat):Int)) rfl (aD (rQ (by omega))) ?_
  refine bs 1 ?_;refine kN (j:=2) aG rfl rfl rfl rfl (.sl rfl (by rw[List.length_map,fN,hos];omega)) (.sl rfl rfl rfl) rfl rfl rfl (by omega) (by omega) ?_
  refine o1 ?_;refine nl ?_;refine rl ?_;refine o1 ?_;refine o1 ?_;refine WL.cast (t:=40) (u':=.int .u8 ((((nth X k+nth Y k+cr)/2):Nat):Int)) rfl (aD rR) ?_;refine o1 ?_
  refine nl ?_;refine rl ?_;refine o1 ?_;refine o1 ?_;refine WL.cast (t:=24) (u':=.int .i64 ((k+1:Nat):Int)) rfl (aD (by omega)) ?_
  refine o1 ?_;refine nl ?_;have hst:=oF hos hv2
  have hz1:X.length≤k→nth X k=0:=fun h=>dF (by omega)
  have hz2:Y.length≤k→nth Y k=0:=fun h=>dF (by omega)
  exact⟨(k+1,(nth X k+nth Y k+cr)/2,os++[(nth X k+nth Y k+cr)%2]),by dsimp only;omega,⟨by simp[hos],hol.append (Lim.cons (Nat.mod_lt _ (by omega)) Lim.nil),hst,by dsimp only;omega,by dsimp only;omega⟩,aZ h0 [2] _ _ (by decide) ⟨rfl,rfl,rfl,rfl,rfl,trivial⟩ ⟨cG (congrArg (fun l:List AV=>some (⟨5,1,l⟩:Ob)) (lM os [(nth X k+nth Y k+cr)%2])),rfl⟩⟩
 (iterate 3 refine o1 ?_);refine nl ?_;refine bG rfl (fun h3=>?_) (fun h3=>?_)
 ·refine sk ?_;refine sq ?_;refine bl ?_;refine sq ?_;refine rl ?_;refine o1 ?_;refine o1 ?_
  refine ca (gJ (xs:=X) (k:=k)) kO ⟨a1 rfl,a1 rfl,rfl⟩ (.one (tv (.int .u8 ((nth X (k):Nat):Int)))) ?_;refine o1 ?_;refine o1 ?_
  refine ca (gJ (xs:=Y) (k:=k)) kO ⟨a1 rfl,a1 rfl,rfl⟩ (.one (tv (.int .u8 ((nth Y (k):Nat):Int)))) ?_;refine o1 ?_
  refine WL.cast (t:=31) (u':=.int .u8 (((nth X (k))+(nth Y (k)):Nat):Int)) rfl (aD (by omega)) ?_
  refine o1 ?_;refine o1 ?_;refine WL.cast (t:=33) (u':=.int .u8 (((nth X (k))+(nth Y (k))+cr:Nat):Int)) rfl (aD (by omega)) ?_
  refine o1 ?_;refine nl ?_;refine sq ?_;refine rl ?_;(iterate 3 refine o1 ?_)
  refine WL.cast (t:=36) (u':=.int .u8 ((((nth X k+nth Y k+cr)%2):Nat):Int)) rfl (aD (rQ (by omega))) ?_
  refine bs 1 ?_;refine kN (j:=2) aG rfl rfl rfl rfl (.sl rfl (by rw[List.length_map,fN,hos];omega)) (.sl rfl rfl rfl) rfl rfl rfl (by omega) (by omega) ?_
  refine o1 ?_;refine nl ?_;refine rl ?_;refine o1 ?_;refine o1 ?_;refine WL.cast (t:=40) (u':=.int .u8 ((((nth X k+nth Y k+cr)/2):Nat):Int)) rfl (aD rR) ?_;refine o1 ?_
  refine nl ?_;refine rl ?_;refine o1 ?_;refine o1 ?_;refine WL.cast (t:=24) (u':=.int .i64 ((k+1:Nat):Int)) rfl (aD (by omega)) ?_
  refine o1 ?_;refine nl ?_;have hst:=oF hos hv2
  have hz1:X.length≤k→nth X k=0:=fun h=>dF (by omega)
  have hz2:Y.length≤k→nth Y k=0:=fun h=>dF (by omega)
  exact⟨(k+1,(nth X k+nth Y k+cr)/2,os++[(nth X k+nth Y k+cr)%2]),by dsimp only;omega,⟨by simp[hos],hol.append (Lim.cons (Nat.mod_lt _ (by omega)) Lim.nil),hst,by dsimp only;omega,by dsimp only;omega⟩,aZ h0 [2] _ _ (by decide) ⟨rfl,rfl,rfl,rfl,rfl,trivial⟩ ⟨cG (congrArg (fun l:List AV=>some (⟨5,1,l⟩:Ob)) (lM os [(nth X k+nth Y k+cr)%2])),rfl⟩⟩
 refine ex ?_;refine sq ?_;refine rl ?_;have hc0:cr=0:=by omega
 rw[hc0,Nat.mul_zero,Nat.add_zero,aQ 2 (by omega),aQ 2 (by omega),hvX,hvY]at hv2
 have htr:=fL (by omega) hol hv2
 refine WL.sub (rO (i:=5) (zs:=os) (zs':=os) rfl rfl rfl (by omega) rfl) ?_
 refine o1 ?_;refine ca (fC (xs:=os) (by omega) htr) kW ⟨a1 rfl,rfl⟩ ((bR (dg 2 (u+v)))) ?_
 refine o1 ?_;refine nl ?_;refine rt ?_;exact en (.inl rfl) rfl (eA (.one (.id rfl))) (by decide) (fun h=>by cases h) rfl
theorem Qv {u v:Nat}(hu:(dg 2 (u)).length≤900000) (hv:(dg 2 (v)).length≤900000) (hle:v≤u):aJ false Tryz.prog 114 [] [(bR (dg 2 (u))),(bR (dg 2 (v)))] (bC (bR (dg 2 (u-v)))):=by
 refine cR Tryz.func114 rfl Tryz.ntmps114 rfl aG rfl fun N9 w9 c0 h0=>?_
 have hX:=bE (B:=2) (by omega) u
 have hY:=bE (B:=2) (by omega) v
 have hvX:=bL (B:=2) (by omega) u
 have hvY:=bL (B:=2) (by omega) v
 obtain⟨X,hXe⟩:∃X,dg 2 u=X:=⟨_,rfl⟩
 obtain⟨Y,hYe⟩:∃Y,dg 2 v=Y:=⟨_,rfl⟩
 rw[hXe]at hX hvX hu⊢;rw[hYe]at hY hvY hv⊢;refine sq ?_;refine rl ?_;refine o1 ?_;refine nl ?_;refine sq ?_;refine rl ?_;refine o1 ?_;refine nl ?_;refine sq ?_;refine rl ?_
 refine o1 ?_;refine nl ?_;refine sq ?_;refine sq ?_;refine rl ?_;refine o1 ?_;refine nl ?_;refine bl ?_
 refine lp (γ:=Nat×Nat×List Nat) (fun s=>bO [(0,.one (.t (.s false 5 1 X.length (aV X)))),(1,.one (.t (.s false 5 1 Y.length (aV Y)))),(5,.one (.sl 0 0 (s.1))),(6,.one (tv (.int .u8 ((s.2.1:Nat):Int)))),(7,.one (tv (.int .i64 ((s.1:Nat):Int))))]) (fun s=>[(⟨5,1,(aV s.2.2).map .t⟩:Ob)].map some) (fun s=>s.2.2.length=s.1∧Lim 2 s.2.2∧vl 2 s.2.2+vl 2 (Y.take s.1)=vl 2 (X.take s.1)+2^s.1*s.2.1∧s.2.1≤1∧s.1≤X.length) (fun s=>X.length-s.1) (0,0,[]) ⟨rfl,Lim.nil,rfl,Nat.zero_le _,Nat.zero_le _⟩ ((nr (i:=5) 0 5 1 rfl rfl rfl rfl).trans (aZ h0 [0] _ _ (by decide) ⟨rfl,rfl,rfl,rfl,rfl,trivial⟩ ⟨cG (l:=[]) rfl,rfl⟩)) ?_
 rintro⟨k,cr,os⟩ ⟨hos,hol,hv2,hc,hkm⟩;dsimp only at hos hol hv2 hc hkm⊢;have hn1:=hX.nth (by omega) k
 have hn2:=hY.nth (by omega) k
 refine sq ?_;refine sq ?_;refine rl ?_;(iterate 4 refine o1 ?_);refine nl ?_;refine bG rfl (fun h1=>?_) (fun h1=>?_)
 ·refine sk ?_;refine sq ?_;refine bl ?_;refine sq ?_;refine rl ?_;refine o1 ?_;refine o1 ?_
  refine ca (gJ (xs:=X) (k:=k)) kO ⟨a1 rfl,a1 rfl,rfl⟩ (.one (tv (.int .u8 ((nth X (k):Nat):Int)))) ?_;refine o1 ?_
  refine WL.cast (t:=18) (u':=.int .u8 ((2+(nth X (k)):Nat):Int)) rfl (aD (by omega)) ?_
  refine o1 ?_;refine o1 ?_;refine ca (gJ (xs:=Y) (k:=k)) kO ⟨a1 rfl,a1 rfl,rfl⟩ (.one (tv (.int .u8 ((nth Y (k):Nat):Int)))) ?_;refine o1 ?_
  refine WL.cast (t:=22) (u':=.int .u8 ((2+(nth X (k))-(nth Y (k)):Nat):Int)) rfl (aD (by omega)) ?_
  refine o1 ?_;refine o1 ?_;refine WL.cast (t:=24) (u':=.int .u8 ((2+(nth X (k))-(nth Y (k))-cr:Nat):Int)) rfl (aD (by omega)) ?_
  refine o1 ?_;refine nl ?_;refine sq ?_;refine rl ?_;(iterate 3 refine o1 ?_)
  refine WL.cast (t:=27) (u':=.int .u8 ((((2+nth X k-nth Y k-cr)%2):Nat):Int)) rfl (aD (rQ (by omega))) ?_
  refine bs 1 ?_;refine kN (j:=2) aG rfl rfl rfl rfl (.sl rfl (by rw[List.length_map,fN,hos];omega)) (.sl rfl rfl rfl) rfl rfl rfl (by omega) (by omega) ?_
  refine o1 ?_;refine nl ?_;refine rl ?_;refine o1 ?_;refine o1 ?_;refine WL.cast (t:=31) (u':=.int .u8 ((((2+nth X k-nth Y k-cr)/2):Nat):Int)) rfl (aD rR) ?_;refine o1 ?_
  refine WL.cast (t:=32) (u':=.int .u8 ((1-((2+nth X k-nth Y k-cr)/2):Nat):Int)) rfl (aD (by omega)) ?_
  refine o1 ?_;refine nl ?_;refine rl ?_;refine o1 ?_;refine o1 ?_;refine WL.cast (t:=14) (u':=.int .i64 ((k+1:Nat):Int)) rfl (aD (by omega)) ?_
  refine o1 ?_;refine nl ?_;have hst:=Ew (d:=(2+nth X k-nth Y k-cr)%2) (br':=1-(2+nth X k-nth Y k-cr)/2) hos hv2 (by omega)
  exact⟨(k+1,1-(2+nth X k-nth Y k-cr)/2,os++[(2+nth X k-nth Y k-cr)%2]),by dsimp only;omega,⟨by simp[hos],hol.append (Lim.cons (Nat.mod_lt _ (by omega)) Lim.nil),hst,by dsimp only;omega,by dsimp only;omega⟩,aZ h0 [2] _ _ (by decide) ⟨rfl,rfl,rfl,rfl,rfl,trivial⟩ ⟨cG (congrArg (fun l:List AV=>some (⟨5,1,l⟩:Ob)) (lM os [(2+nth X k-nth Y k-cr)%2])),rfl⟩⟩
 refine ex ?_;refine sq ?_;refine rl ?_;have hoo:=dQ hol
 rw[hos]at hoo;have hXY:=cU (B:=2) (by omega) hle
 rw[hXe,hYe]at hXY;rw[aQ 2 (l:=X) (by omega),aQ 2 (l:=Y) (by omega),hvX,hvY]at hv2
 have hb0:cr=0:=by
  rcases Nat.eq_zero_or_pos cr with h0 | h0
  ·exact h0
  have h1:cr=1:=by omega
  rw[h1,Nat.mul_one]at hv2;omega
 rw[hb0,Nat.mul_zero,Nat.add_zero]at hv2;have htr:=fL (n:=u-v) (by omega) hol (by omega)
 refine WL.sub (rO (i:=5) (zs:=os) (zs':=os) rfl rfl rfl (by omega) rfl) ?_
 refine o1 ?_;refine ca (fC (xs:=os) (by omega) htr) kW ⟨a1 rfl,rfl⟩ ((bR (dg 2 (u-v)))) ?_
 refine o1 ?_;refine nl ?_;refine rt ?_;exact en (.inl rfl) rfl (eA (.one (.id rfl))) (by decide) (fun h=>by cases h) rfl
theorem Bw {u d:Nat}(hu:(dg 2 (u)).length≤900000) (hd:d<2):aJ false Tryz.prog 111 [] [(bR (dg 2 (u))),.one (tv (.int .u8 ((d:Nat):Int)))] (bC (bR (dg 2 (2*u+d)))):=by
 refine cR Tryz.func111 rfl Tryz.ntmps111 rfl aG rfl fun N9 w9 c0 h0=>?_
 refine sq ?_;refine rl ?_;refine o1 ?_;refine nl ?_;refine sq ?_;refine rl ?_;refine o1 ?_;refine bs 0 ?_;refine o1 ?_;refine nl ?_;refine sq ?_;refine rl ?_;refine o1 ?_;refine o1 ?_
 refine kN (j:=1) aG rfl rfl rfl rfl (.sl rfl (rfl)) .fz (Bc _) (zA _) rfl (by omega) (by omega) ?_
 refine WL.sub (rO (i:=10) (zs:=(d::dg 2 u)) (zs':=(d::dg 2 u)) rfl rfl rfl (by rw[List.length_cons];omega) rfl) ?_
 refine ca (fC (xs:=(d::dg 2 u)) (by rw[List.length_cons];omega) (Km hd)) kW ⟨a1 rfl,rfl⟩ ((bR (dg 2 (2*u+d)))) ?_
 refine o1 ?_;refine nl ?_;refine rt ?_;exact en (.inl rfl) rfl (eA (.one (.id rfl))) (by decide) (fun h=>by cases h) rfl
theorem Ok {u v:Nat}(hu:(dg 2 (u)).length≤900000) (hv:(dg 2 (v)).length≤900000):aJ true Tryz.prog 113 [] [(bR (dg 2 (u))),(bR (dg 2 (v)))] (bC (.one (tv (.bool (decide (u<v)))))):=by
 refine cR Tryz.func113 rfl Tryz.ntmps113 rfl aG rfl fun N9 w9 c0 h0=>?_
 have hX:=bE (B:=2) (by omega) u
 have hY:=bE (B:=2) (by omega) v
 have hvX:=bL (B:=2) (by omega) u
 have hvY:=bL (B:=2) (by omega) v
 have htX:=fL (by omega) hX hvX
 have htY:=fL (by omega) hY hvY
 refine sq ?_;refine rl ?_;refine o1 ?_;refine nl ?_;refine sq ?_;refine rl ?_;refine o1 ?_;refine ca (fC (xs:=(dg 2 (u))) (by omega) htX) kW ⟨a1 rfl,rfl⟩ (bR (dg 2 (u))) ?_
 refine o1 ?_;refine nl ?_;refine sq ?_;refine rl ?_;refine o1 ?_;refine ca (fC (xs:=(dg 2 (v))) (by omega) htY) kW ⟨a1 rfl,rfl⟩ (bR (dg 2 (v))) ?_
 refine o1 ?_;refine nl ?_;refine sq ?_;refine sq ?_;refine rl ?_;(iterate 5 refine o1 ?_);refine nl ?_;refine bG rfl (fun h1=>?_) (fun h1=>?_)
 ·refine sq ?_;refine rl ?_;(iterate 6 refine o1 ?_);refine nl ?_;refine rt ?_;have hq:decide (((dg 2 (u)).length:Int)<((dg 2 (v)).length:Int))=decide (u<v):=by
   rcases Nat.lt_or_ge (dg 2 u).length (dg 2 v).length with h9 | h9
   ·rw[decide_eq_true (by omega),decide_eq_true (zZ h9)]
   have h8:=zZ (u:=v) (v:=u) (by omega)
   rw[decide_eq_false (by omega),decide_eq_false (by omega)]
  exact cL (.inl rfl) rfl (hq)
 refine sk ?_;refine sq ?_;refine sq ?_;refine rl ?_;(iterate 4 refine o1 ?_);refine nl ?_;refine bl ?_
 refine lp (γ:=Nat) (fun s=>bO [(0,.one (.t (.s false 5 1 (dg 2 (u)).length (aV (dg 2 (u)))))),(1,.one (.t (.s false 5 1 (dg 2 (v)).length (aV (dg 2 (v)))))),(5,.one (tv (.int .i64 (((s:Nat):Int)-1))))]) (fun s=>([]:List Ob).map some) (fun s=>s≤(dg 2 (u)).length∧∀j,s≤j→nth (dg 2 (u)) j=nth (dg 2 (v)) j) (fun s=>s) ((dg 2 (u)).length) (⟨Nat.le_refl _,fun j hj=>by rw[dF (by omega),dF (by omega)]⟩) (aZ h0 [] _ _ (by decide) ⟨rfl,rfl,rfl,trivial⟩ rfl) ?_
 rintro i hi;refine sq ?_;refine sq ?_;refine rl ?_;refine o1 ?_;refine o1 ?_;refine nl ?_;refine bG rfl (fun h2=>?_) (fun h2=>?_)
 ·refine sk ?_;refine sq ?_;refine bl ?_;refine sq ?_;refine rd [] (fun i=>[].contains i) mixed ?_
  refine dv 0 ?_;refine dv 1 ?_;refine WD.cast (t:=28) (u':=.int .i64 ((i-1:Nat):Int)) rfl (aD (by omega)) ?_
  refine dv 2 ?_;refine eK 3 ([.v (.int .u8 ((nth (dg 2 (u)) (i-1):Nat):Int))]) (gP (dg 2 (u)) (k:=i-1) (by omega)) ?_
  refine dv 4 ?_;refine dv 5 ?_;refine WD.cast (t:=32) (u':=.int .i64 ((i-1:Nat):Int)) rfl (aD (by omega)) ?_
  refine dv 6 ?_;refine eK 7 ([.v (.int .u8 ((nth (dg 2 (v)) (i-1):Nat):Int))]) (gP (dg 2 (v)) (k:=i-1) (by omega)) ?_
  refine dv 8 ?_;refine mY ?_;refine bG rfl (fun h3=>?_) (fun h3=>?_)
  ·refine sq ?_;refine rd [] (fun i=>[9].contains i) mixed ?_
   refine dv 0 ?_;refine dv 1 ?_;refine WD.cast (t:=37) (u':=.int .i64 ((i-1:Nat):Int)) rfl (aD (by omega)) ?_
   refine dv 2 ?_;refine eK 3 ([.v (.int .u8 ((nth (dg 2 (u)) (i-1):Nat):Int))]) (gP (dg 2 (u)) (k:=i-1) (by omega)) ?_
   refine dv 4 ?_;refine dv 5 ?_;refine WD.cast (t:=41) (u':=.int .i64 ((i-1:Nat):Int)) rfl (aD (by omega)) ?_
   refine dv 6 ?_;refine eK 7 ([.v (.int .u8 ((nth (dg 2 (v)) (i-1):Nat):Int))]) (gP (dg 2 (v)) (k:=i-1) (by omega)) ?_
   refine dv 8 ?_;refine yU 9 (by kernel_rfl) rfl rfl aG rfl (by trivial) ?_ (fun h=>by first | rfl | cases h)
   refine mY ?_;refine rt ?_;have hq:decide (((nth (dg 2 (u)) (i-1):Nat):Int)<((nth (dg 2 (v)) (i-1):Nat):Int))=decide (u<v):=by
    rcases Nat.lt_or_ge (nth (dg 2 u) (i-1)) (nth (dg 2 v) (i-1))with h9 | h9
    ·have h8:=Ez (k:=i-1) hX (fun j hj=>hi.2 j (by omega)) h9
     rw[hvX,hvY]at h8;rw[decide_eq_true (by omega),decide_eq_true h8]
    have h8:=Ez (X:=dg 2 v) (Y:=dg 2 u) (k:=i-1) hY (fun j hj=>(hi.2 j (by omega)).symm) (by omega)
    rw[hvX,hvY]at h8;rw[decide_eq_false (by omega),decide_eq_false (by omega)]
   exact cL (.inl rfl) rfl (hq)
  refine sk ?_;refine rl ?_;(iterate 3 refine o1 ?_);refine nl ?_
  exact⟨i-1,by omega,⟨by omega,fun j hj=>(Nat.eq_or_lt_of_le hj).elim (fun h9=>by rw[←h9];omega) (fun h9=>hi.2 j (by omega))⟩,aZ h0 [] _ _ (by decide) ⟨rfl,rfl,nY (by omega),trivial⟩ rfl⟩
 refine ex ?_;refine sq ?_;refine rl ?_;refine o1 ?_;refine nl ?_;refine rt ?_;have he:=Ko (fun j=>hi.2 j (by omega))
 rw[hvX,hvY]at he;exact cL (.inl rfl) rfl ((decide_eq_false (by omega)).symm)
end Go.Proofs.YteggpgndiajdpaaGreatDoor
