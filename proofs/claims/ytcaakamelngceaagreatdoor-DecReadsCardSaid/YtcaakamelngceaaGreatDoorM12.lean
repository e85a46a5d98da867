/- Part 12 of a proof: U2 to U4. -/
import Derived.Test.YtcaakamelngceaaGreatDoorM10
import Derived.Test.YtcaakamelngceaaGreatDoorM11
import Derived.Test.YtcaakamelngceaaGreatDoorM5
import Derived.Test.YtcaakamelngceaaGreatDoorM4
import Derived.Test.YtcaakamelngceaaGreatDoorM7
set_option maxRecDepth 100000
set_option linter.unusedVariables false
set_option linter.unusedSimpArgs false
namespace Go.Proofs.YtcaakamelngceaaGreatDoor
open Go Go.RowKit
theorem Pm:CallOk Tryz.prog 123:=.mk Tryz.func123 (by decide) rfl
theorem Pn:CallOk Tryz.prog 124:=.mk Tryz.func124 (by decide) rfl
theorem JX:CallOk Tryz.prog 74:=.mk Tryz.func74 (by decide) rfl
theorem JY:CallOk Tryz.prog 75:=.mk Tryz.func75 (by decide) rfl
theorem EA {l v p:List Nat}{n:Bool}(hl:Lim 256 l):aD false Tryz.prog 123 [⟨103,0,[tv (.string (aC l)),tv (.bool n),tv (.string (aC v)),tv (.string (aC p))]⟩] [.one (.pt 0 0),.one (tv (.string ⟨#[45]⟩))] (Rt [⟨103,0,[tv (.string (aC (if l.take 1=[45]then l.drop 1 else l))),tv (.bool n),tv (.string (aC v)),tv (.string (aC p))]⟩] (.one (tv (.bool (decide (l.take 1=[45])))))):=by
 refine Dp Tryz.func123 rfl Tryz.ntmps123 rfl aA rfl fun N9 M9 w9 c0 h0=>?_
 refine sq ?_;refine rl ?_;refine o1 ?_;refine nl ?_;refine sq ?_;refine rl ?_;(iterate 3 refine o1 ?_);refine ld ?_;refine o1 ?_
 refine ca (Hp hl) Ww ⟨a1 rfl,a1 rfl,rfl⟩ (.tup [.one (tv (.string (aC (if l.take 1=[45]then l.drop 1 else l)))),.one (tv (.bool (decide (l.take 1=[45]))))]) ?_
 (iterate 5 refine o1 ?_);refine nl ?_;refine sq ?_;refine rl ?_;(iterate 4 refine o1 ?_);refine st ?_;refine nl ?_;refine sq ?_;refine rl ?_;refine o1 ?_;refine o1 ?_;refine nl ?_
 refine rt ?_
 exact kV (lent':=[⟨103,0,[tv (.string (aC (if l.take 1=[45]then l.drop 1 else l))),tv (.bool n),tv (.string (aC v)),tv (.string (aC p))]⟩]) (.inl rfl) rfl (aR (aN _)) (by decide) (fun _ h=>by cases h) ⟨⟨rfl,rfl⟩,trivial⟩ ⟨rfl,trivial⟩ ⟨rfl,trivial⟩ (fun h=>by cases h) ⟨rfl,rfl⟩
theorem Zx {l v p:List Nat}{n:Bool}(hl:Lim 256 l):aD false Tryz.prog 123 [⟨103,0,[tv (.string (aC l)),tv (.bool n),tv (.string (aC v)),tv (.string (aC p))]⟩] [.one (.pt 0 0),.one (tv (.string ⟨#[46]⟩))] (Rt [⟨103,0,[tv (.string (aC (if l.take 1=[46]then l.drop 1 else l))),tv (.bool n),tv (.string (aC v)),tv (.string (aC p))]⟩] (.one (tv (.bool (decide (l.take 1=[46])))))):=by
 refine Dp Tryz.func123 rfl Tryz.ntmps123 rfl aA rfl fun N9 M9 w9 c0 h0=>?_
 refine sq ?_;refine rl ?_;refine o1 ?_;refine nl ?_;refine sq ?_;refine rl ?_;(iterate 3 refine o1 ?_);refine ld ?_;refine o1 ?_
 refine ca (Dv hl) Ww ⟨a1 rfl,a1 rfl,rfl⟩ (.tup [.one (tv (.string (aC (if l.take 1=[46]then l.drop 1 else l)))),.one (tv (.bool (decide (l.take 1=[46]))))]) ?_
 (iterate 5 refine o1 ?_);refine nl ?_;refine sq ?_;refine rl ?_;(iterate 4 refine o1 ?_);refine st ?_;refine nl ?_;refine sq ?_;refine rl ?_;refine o1 ?_;refine o1 ?_;refine nl ?_
 refine rt ?_
 exact kV (lent':=[⟨103,0,[tv (.string (aC (if l.take 1=[46]then l.drop 1 else l))),tv (.bool n),tv (.string (aC v)),tv (.string (aC p))]⟩]) (.inl rfl) rfl (aR (aN _)) (by decide) (fun _ h=>by cases h) ⟨⟨rfl,rfl⟩,trivial⟩ ⟨rfl,trivial⟩ ⟨rfl,trivial⟩ (fun h=>by cases h) ⟨rfl,rfl⟩
theorem Er {l v p:List Nat}{n:Bool}(hl:Lim 256 l) (hn:l.length≤1000000):aD false Tryz.prog 124 [⟨103,0,[tv (.string (aC l)),tv (.bool n),tv (.string (aC v)),tv (.string (aC p))]⟩] [.one (.pt 0 0)] (Rt [⟨103,0,[tv (.string (aC (l.dropWhile fZ))),tv (.bool n),tv (.string (aC v)),tv (.string (aC p))]⟩] (.one (tv (.string (aC (l.takeWhile fZ)))))):=by
 refine Dp Tryz.func124 rfl Tryz.ntmps124 rfl aA rfl fun N9 M9 w9 c0 h0=>?_
 have hdl:(l.dropWhile fZ).length≤l.length:=(List.dropWhile_sublist _).length_le
 refine sq ?_;refine rl ?_;refine o1 ?_;refine nl ?_;refine sq ?_;refine rl ?_;(iterate 3 refine o1 ?_);refine ld ?_
 refine ca (Oy hl) Tl ⟨a1 rfl,a1 rfl,rfl⟩ (.one (tv (.string (aC (l.dropWhile fZ))))) ?_;refine o1 ?_;refine nl ?_;refine sq ?_;refine rd [0] (fun i=>[13].contains i) mixed ?_
 refine dv 0 ?_;refine dv 1 ?_;refine dv 2 ?_;refine aX 3 ?_;refine dv 4 ?_;refine dv 5 ?_;refine dv 6 ?_;refine aX 7 ?_;refine dv 8 ?_
 refine WD.cast (t:=18) (u':=.int .i64 ((l.length:Nat):Int)) rfl (congrArg (fun n:Nat=>Value.int .i64 (n:Int)) (aG _)) ?_
 refine dv 9 ?_;refine dv 10 ?_;refine WD.cast (t:=20) (u':=.int .i64 (((l.dropWhile fZ).length:Nat):Int)) rfl (congrArg (fun n:Nat=>Value.int .i64 (n:Int)) (aG _)) ?_
 refine dv 11 ?_;refine WD.cast (t:=21) (u':=.int .i64 ((l.length-((l.dropWhile fZ).length):Nat):Int)) rfl (aH (by omega)) ?_
 refine dv 12 ?_ (hC:=(by rw[aG];omega))
 refine WD.cast (t:=22) (u':=.string (aC (l.takeWhile fZ))) rfl (congrArg Value.string ((hG _ 0 _).trans (congrArg aC (JA fZ l)))) ?_
 refine dR 13 (by kernel_rfl) rfl rfl aA rfl (by trivial) ?_ (fun h=>by first | rfl | cases h)
 refine aS ?_;refine sq ?_;refine rl ?_;(iterate 4 refine o1 ?_);refine st ?_;refine nl ?_;refine sq ?_;refine rl ?_;refine o1 ?_;refine o1 ?_;refine nl ?_;refine rt ?_
 exact kV (lent':=[⟨103,0,[tv (.string (aC (l.dropWhile fZ))),tv (.bool n),tv (.string (aC v)),tv (.string (aC p))]⟩]) (.inl rfl) rfl (aR (aN _)) (by decide) (fun _ h=>by cases h) ⟨⟨rfl,rfl⟩,trivial⟩ ⟨rfl,trivial⟩ ⟨rfl,trivial⟩ (fun h=>by cases h) ⟨rfl,rfl⟩
theorem EB {a b c d:List Nat}{t:Nat}{n:Bool}{w:List Nat}(h1:a=b) (h2:c=d):some (⟨t,0,[tv (.string (aC a)),tv (.bool n),tv (.string (aC w)),tv (.string (aC c))]⟩:Ob)=some (⟨t,0,[tv (.string (aC b)),tv (.bool n),tv (.string (aC w)),tv (.string (aC d))]⟩:Ob):=by rw[h1,h2]
theorem vP {m:List Nat}(h:gA (cA m)=true):(gY (cA m)).dropWhile fZ=rr m∧(gY (cA m)).takeWhile fZ=pl m:=by
 unfold rr pl
 rw[if_pos h,if_pos h]
 exact⟨rfl,rfl⟩
theorem EC {m:List Nat}(h:gA (cA m)=false):gY (cA m)=rr m∧[]=pl m:=by
 rw[Lo h,mV h,IX h]
 exact⟨rfl,rfl⟩
theorem NC {m:List Nat}(h:gA (cA m)=false):(gA (cA m)&&decide (pl m=[]))=false:=by rw[h];rfl
theorem ND {m:List Nat}(h:gA (cA m)=true) (h2:decide ((gY (cA m)).takeWhile fZ=[])=false):(gA (cA m)&&decide (pl m=[]))=false:=by
 rw[(vP h).2]at h2
 rw[h2,Bool.and_false]
theorem ED {l:List Nat}{c:List Nat}(_:c=rr (aE l)) (h:gA (cA (aE l))=true) (h2:decide ((gY (cA (aE l))).takeWhile fZ=[])=true):gN l=false:=by
 rw[(vP h).2]at h2
 unfold gN gB
 rw[h,h2]
 rfl
theorem EE {m:List Nat}(h:Lim 256 m):Lim 256 (rr m):=by
 unfold rr
 split
 ·exact kC (yW (kC h))
 exact kC h
theorem EF {l:List Nat}(hl:Lim 256 l) (hn:l.length≤1000000):aD false Tryz.prog 74 [⟨103,0,[tv (.string (aC l)),tv (.bool false),tv (.string (aC [])),tv (.string (aC []))]⟩] [.one (.pt 0 0)] (Rt [⟨103,0,[tv (.string (aC (rr (aE l)))),tv (.bool (cY l)),tv (.string (aC (wh (aE l)))),tv (.string (aC (pl (aE l))))]⟩] (.one (tv (.bool (gN l))))):=by
 refine Dp Tryz.func74 rfl Tryz.ntmps74 rfl aA rfl fun N9 M9 w9 c0 h0=>?_
 have hWn:(wh (aE l)++pl (aE l)).length≤1000000:=by rw[List.length_append];have:=sH (aE l);have:=yV (l:=l);omega
 have hL:=Yw hl
 have hnL:=Nat.le_trans (yV (l:=l)) hn
 have hR:Lim 256 (cA (aE l)):=kC hL
 have hnR:=Nat.le_trans (Yy (aE l)) hnL
 have hwl:=sH (aE l)
 have hWP:Lim 256 (wh (aE l)++pl (aE l)):=wU.append DE
 refine sq ?_;refine rl ?_;refine o1 ?_;refine nl ?_;refine sq ?_;refine rl ?_;(iterate 4 refine o1 ?_)
 refine cl 1 [0] (EA (l:=l) (n:=false) (v:=[]) (p:=[]) hl) Pm ⟨oe rfl rfl,rfl⟩ ⟨rfl,rfl,rfl⟩ (ok:=[some ⟨103,0,[tv (.string (aC (aE l))),tv (.bool false),tv (.string (aC [])),tv (.string (aC []))]⟩]) ⟨oe rfl rfl,rfl⟩ ?_
 refine o1 ?_;refine o1 ?_;refine st ?_;refine nl ?_;refine sq ?_;refine rl ?_;(iterate 4 refine o1 ?_)
 refine cl 1 [0] (Er (l:=(aE l)) (n:=(cY l)) (v:=[]) (p:=[]) hL hnL) Pn ⟨oe rfl rfl,rfl⟩ ⟨rfl,rfl⟩ (ok:=[some ⟨103,0,[tv (.string (aC (cA (aE l)))),tv (.bool (cY l)),tv (.string (aC [])),tv (.string (aC []))]⟩]) ⟨oe rfl rfl,rfl⟩ ?_
 refine o1 ?_;refine o1 ?_;refine st ?_;refine nl ?_
 refine md (γ:=Unit) (fun _=>cK [(0,.one (.pt 0 0))]) (fun _=>([⟨103,0,[tv (.string (aC (rr (aE l)))),tv (.bool (cY l)),tv (.string (aC (wh (aE l)))),tv (.string (aC (pl (aE l))))]⟩]:List Ob).map some) (fun _=>(gA (cA (aE l))&&decide ((pl (aE l))=[]))=false) ?_ fun _ hfk=>?_
 ·refine sq ?_;refine rl ?_;(iterate 3 refine o1 ?_)
  refine cl 1 [0] (Zx (l:=(cA (aE l))) (n:=(cY l)) (v:=(wh (aE l))) (p:=[]) hR) Pm ⟨oe rfl rfl,rfl⟩ ⟨rfl,rfl,rfl⟩ (ok:=[some ⟨103,0,[tv (.string (aC (gY (cA (aE l))))),tv (.bool (cY l)),tv (.string (aC (wh (aE l)))),tv (.string (aC []))]⟩]) ⟨oe rfl rfl,rfl⟩ ?_
  refine nl ?_;refine jV rfl (fun h1=>?_) (fun h1=>?_)
  ·refine sq ?_;refine rl ?_;(iterate 4 refine o1 ?_)
   refine cl 1 [0] (Er (l:=(gY (cA (aE l)))) (n:=(cY l)) (v:=(wh (aE l))) (p:=[]) (yW hR) (Nat.le_trans Yx hnR)) Pn ⟨oe rfl rfl,rfl⟩ ⟨rfl,rfl⟩ (ok:=[some ⟨103,0,[tv (.string (aC ((gY (cA (aE l))).dropWhile fZ))),tv (.bool (cY l)),tv (.string (aC (wh (aE l)))),tv (.string (aC []))]⟩]) ⟨oe rfl rfl,rfl⟩ ?_
   refine o1 ?_;refine o1 ?_;refine st ?_;refine nl ?_;refine sq ?_;refine rl ?_;(iterate 3 refine o1 ?_);refine ld ?_;refine o1 ?_
   refine WL.cast (t:=33) (u':=.bool (decide ((gY (cA (aE l))).takeWhile fZ=[]))) rfl (congrArg Value.bool (gZ (DD (yW hR)))) ?_;refine nl ?_
   refine jV rfl (fun h2=>?_) (fun h2=>?_)
   ·refine sq ?_;refine rl ?_;refine o1 ?_;refine nl ?_;refine rt ?_;have hok:gN l=false:=ED (vP h1).1 h1 h2
    exact kV (lent':=[⟨103,0,[tv (.string (aC (rr (aE l)))),tv (.bool (cY l)),tv (.string (aC (wh (aE l)))),tv (.string (aC (pl (aE l))))]⟩]) (.inl rfl) rfl (aR (aN _)) (by decide) (fun _ h=>by cases h) ⟨⟨rfl,rfl⟩,trivial⟩ ⟨EB (vP h1).1 (vP h1).2,trivial⟩ ⟨rfl,trivial⟩ (fun h=>by cases h) ⟨rfl,by rw[hok]⟩
   refine sk ?_;exact⟨(),ND h1 h2,Dq h0 [0] _ _ (by decide) rfl ⟨rfl,trivial⟩ ⟨oe rfl (EB (vP h1).1 (vP h1).2),rfl⟩⟩
  refine sk ?_;exact⟨(),NC h1,Dq h0 [0] _ _ (by decide) rfl ⟨rfl,trivial⟩ ⟨oe rfl (EB (EC h1).1 (EC h1).2),rfl⟩⟩
 refine sq ?_;refine rd [0] (fun i=>[11].contains i) mixed ?_
 refine dv 0 ?_;refine dv 1 ?_;refine dv 2 ?_;refine aX 3 ?_;refine dv 4 ?_;refine dv 5 ?_;refine dv 6 ?_;refine aX 7 ?_;refine dv 8 ?_ (hC:=(by rw[aG,aG];omega))
 refine WD.cast (t:=42) (u':=.string (aC (wh (aE l)++(pl (aE l))))) rfl (congrArg Value.string (nT _ _)) ?_
 refine aJ 9 rfl (Zf hWP (by omega)) Ly ⟨a1 rfl,a1 rfl,rfl⟩ (.one (tv (.string (aC ((kU p0 (wh (aE l)++(pl (aE l)))).dropWhile p0))))) ?_
 refine df 10 ?_;refine WD.cast (t:=44) (u':=.bool (wT (aE l))) rfl (congrArg Value.bool ((gZ (kC (zC hWP))).trans (Tj _))) ?_
 refine dR 11 (by kernel_rfl) rfl rfl aA rfl (by trivial) ?_ (fun h=>by first | rfl | cases h)
 refine aS ?_;refine sq ?_;refine rl ?_;(iterate 4 refine o1 ?_);refine ld ?_;refine o1 ?_
 refine WL.cast (t:=50) (u':=.bool (decide ((rr (aE l))=[]))) rfl (congrArg Value.bool (gZ (EE hL))) ?_;refine o1 ?_;refine WL.splitb (t:=51) rfl (fun h3=>?_) (fun h3=>?_)
 ·(iterate 3 refine o1 ?_);refine ld ?_;refine o1 ?_;refine WL.cast (t:=56) (u':=.bool (!decide ((wh (aE l))=[]))) rfl (congrArg Value.bool (congrArg not (gZ wU))) ?_;refine o1 ?_
  refine o1 ?_;refine WL.splitb (t:=58) rfl (fun h4=>?_) (fun h4=>?_)
  ·(iterate 3 refine o1 ?_);refine ld ?_;refine o1 ?_
   refine WL.cast (t:=63) (u':=.bool (decide ((wh (aE l))=[48]))) rfl (congrArg Value.bool (jJ (l':=[48]) wU (Lim.cons (by omega) Lim.nil))) ?_
   refine o1 ?_;refine WL.splitb (t:=64) rfl (fun h5=>?_) (fun h5=>?_)
   ·(iterate 6 refine cL ?_);(iterate 6 refine o1 ?_);refine ld ?_;refine o1 ?_;refine WL.splitb (t:=78) rfl (fun h6=>?_) (fun h6=>?_)
    ·refine o1 ?_;refine o1 ?_;refine WL.splitb (t:=80) rfl (fun h7=>?_) (fun h7=>?_)
     ·(iterate 3 refine o1 ?_);refine nl ?_;refine rt ?_
      exact kV (lent':=[⟨103,0,[tv (.string (aC (rr (aE l)))),tv (.bool (cY l)),tv (.string (aC (wh (aE l)))),tv (.string (aC (pl (aE l))))]⟩]) (.inl rfl) rfl (aR (aN _)) (by decide) (fun _ h=>by cases h) ⟨⟨rfl,rfl⟩,trivial⟩ ⟨rfl,trivial⟩ ⟨rfl,trivial⟩ (fun h=>by cases h) ⟨rfl,congrArg (fun b=>FV.one (tv (.bool b))) (by unfold gN gB;simp only[hfk,h3,h4,h5,h6,h7] <;> first | rfl | (simp;done) | (simp;omega) | (simp;exact fun h=>absurd (by omega) h))⟩
     (iterate 3 refine o1 ?_);refine nl ?_;refine rt ?_
     exact kV (lent':=[⟨103,0,[tv (.string (aC (rr (aE l)))),tv (.bool (cY l)),tv (.string (aC (wh (aE l)))),tv (.string (aC (pl (aE l))))]⟩]) (.inl rfl) rfl (aR (aN _)) (by decide) (fun _ h=>by cases h) ⟨⟨rfl,rfl⟩,trivial⟩ ⟨rfl,trivial⟩ ⟨rfl,trivial⟩ (fun h=>by cases h) ⟨rfl,congrArg (fun b=>FV.one (tv (.bool b))) (by unfold gN gB;simp only[hfk,h3,h4,h5,h6,h7] <;> first | rfl | (simp;done) | (simp;omega) | (simp;exact fun h=>absurd (by omega) h))⟩
    refine cL ?_;(iterate 4 refine o1 ?_);refine nl ?_;refine rt ?_
    exact kV (lent':=[⟨103,0,[tv (.string (aC (rr (aE l)))),tv (.bool (cY l)),tv (.string (aC (wh (aE l)))),tv (.string (aC (pl (aE l))))]⟩]) (.inl rfl) rfl (aR (aN _)) (by decide) (fun _ h=>by cases h) ⟨⟨rfl,rfl⟩,trivial⟩ ⟨rfl,trivial⟩ ⟨rfl,trivial⟩ (fun h=>by cases h) ⟨rfl,congrArg (fun b=>FV.one (tv (.bool b))) (by unfold gN gB;simp only[hfk,h3,h4,h5,h6] <;> first | rfl | (simp;done) | (simp;omega) | (simp;exact fun h=>absurd (by omega) h))⟩
   (iterate 3 refine o1 ?_);refine ld ?_;refine o1 ?_ (hC:=(by rw[aG];exact pO (Iv h4)))
   refine WL.cast (t:=69) (u':=.int .u8 (((nth (wh (aE l)) 0):Nat):Int)) rfl (congrArg (fun n:Nat=>Value.int .u8 (n:Int)) (eI (i:=0) (pO (Iv h4)) (dK wU (pO (Iv h4))))) ?_
   (iterate 4 refine o1 ?_);refine WL.split (t:=73) rfl (fun h8=>?_) (fun h8=>?_)
   ·(iterate 3 refine o1 ?_);refine ld ?_;refine o1 ?_;refine WL.splitb (t:=78) rfl (fun h9=>?_) (fun h9=>?_)
    ·refine o1 ?_;refine o1 ?_;refine WL.splitb (t:=80) rfl (fun h10=>?_) (fun h10=>?_)
     ·(iterate 3 refine o1 ?_);refine nl ?_;refine rt ?_
      exact kV (lent':=[⟨103,0,[tv (.string (aC (rr (aE l)))),tv (.bool (cY l)),tv (.string (aC (wh (aE l)))),tv (.string (aC (pl (aE l))))]⟩]) (.inl rfl) rfl (aR (aN _)) (by decide) (fun _ h=>by cases h) ⟨⟨rfl,rfl⟩,trivial⟩ ⟨rfl,trivial⟩ ⟨rfl,trivial⟩ (fun h=>by cases h) ⟨rfl,congrArg (fun b=>FV.one (tv (.bool b))) (by unfold gN gB;simp only[hfk,h3,h4,h5,decide_eq_true h8,h9,h10] <;> first | rfl | (simp;done) | (simp;omega) | (simp;exact fun h=>absurd (by omega) h))⟩
     (iterate 3 refine o1 ?_);refine nl ?_;refine rt ?_
     exact kV (lent':=[⟨103,0,[tv (.string (aC (rr (aE l)))),tv (.bool (cY l)),tv (.string (aC (wh (aE l)))),tv (.string (aC (pl (aE l))))]⟩]) (.inl rfl) rfl (aR (aN _)) (by decide) (fun _ h=>by cases h) ⟨⟨rfl,rfl⟩,trivial⟩ ⟨rfl,trivial⟩ ⟨rfl,trivial⟩ (fun h=>by cases h) ⟨rfl,congrArg (fun b=>FV.one (tv (.bool b))) (by unfold gN gB;simp only[hfk,h3,h4,h5,decide_eq_true h8,h9,h10] <;> first | rfl | (simp;done) | (simp;omega) | (simp;exact fun h=>absurd (by omega) h))⟩
    refine cL ?_;(iterate 4 refine o1 ?_);refine nl ?_;refine rt ?_
    exact kV (lent':=[⟨103,0,[tv (.string (aC (rr (aE l)))),tv (.bool (cY l)),tv (.string (aC (wh (aE l)))),tv (.string (aC (pl (aE l))))]⟩]) (.inl rfl) rfl (aR (aN _)) (by decide) (fun _ h=>by cases h) ⟨⟨rfl,rfl⟩,trivial⟩ ⟨rfl,trivial⟩ ⟨rfl,trivial⟩ (fun h=>by cases h) ⟨rfl,congrArg (fun b=>FV.one (tv (.bool b))) (by unfold gN gB;simp only[hfk,h3,h4,h5,decide_eq_true h8,h9] <;> first | rfl | (simp;done) | (simp;omega) | (simp;exact fun h=>absurd (by omega) h))⟩
   (iterate 8 refine cL ?_);refine o1 ?_;refine o1 ?_;refine nl ?_;refine rt ?_
   exact kV (lent':=[⟨103,0,[tv (.string (aC (rr (aE l)))),tv (.bool (cY l)),tv (.string (aC (wh (aE l)))),tv (.string (aC (pl (aE l))))]⟩]) (.inl rfl) rfl (aR (aN _)) (by decide) (fun _ h=>by cases h) ⟨⟨rfl,rfl⟩,trivial⟩ ⟨rfl,trivial⟩ ⟨rfl,trivial⟩ (fun h=>by cases h) ⟨rfl,congrArg (fun b=>FV.one (tv (.bool b))) (by unfold gN gB;simp only[hfk,h3,h4,h5,decide_eq_false h8] <;> first | rfl | (simp;done) | (simp;omega) | (simp;exact fun h=>absurd (by omega) h))⟩
  (iterate 13 refine cL ?_);refine o1 ?_;refine o1 ?_;(iterate 8 refine cL ?_);refine o1 ?_;refine o1 ?_;refine nl ?_;refine rt ?_
  exact kV (lent':=[⟨103,0,[tv (.string (aC (rr (aE l)))),tv (.bool (cY l)),tv (.string (aC (wh (aE l)))),tv (.string (aC (pl (aE l))))]⟩]) (.inl rfl) rfl (aR (aN _)) (by decide) (fun _ h=>by cases h) ⟨⟨rfl,rfl⟩,trivial⟩ ⟨rfl,trivial⟩ ⟨rfl,trivial⟩ (fun h=>by cases h) ⟨rfl,congrArg (fun b=>FV.one (tv (.bool b))) (by unfold gN gB;simp only[hfk,h3,h4] <;> first | rfl | (simp;done) | (simp;omega) | (simp;exact fun h=>absurd (by omega) h))⟩
 (iterate 5 refine cL ?_);refine o1 ?_;refine o1 ?_;(iterate 13 refine cL ?_);refine o1 ?_;refine o1 ?_;(iterate 8 refine cL ?_);refine o1 ?_;refine o1 ?_;refine nl ?_;refine rt ?_
 exact kV (lent':=[⟨103,0,[tv (.string (aC (rr (aE l)))),tv (.bool (cY l)),tv (.string (aC (wh (aE l)))),tv (.string (aC (pl (aE l))))]⟩]) (.inl rfl) rfl (aR (aN _)) (by decide) (fun _ h=>by cases h) ⟨⟨rfl,rfl⟩,trivial⟩ ⟨rfl,trivial⟩ ⟨rfl,trivial⟩ (fun h=>by cases h) ⟨rfl,congrArg (fun b=>FV.one (tv (.bool b))) (by unfold gN gB;simp only[hfk,h3] <;> first | rfl | (simp;done) | (simp;omega) | (simp;exact fun h=>absurd (by omega) h))⟩
theorem EG {x k:Nat}(h:k≤4096):xG x (k:Int)=x^k:=by
 have e:sS (k:Int)=0:=by
  unfold sS
  rw[if_neg (by omega),if_neg (by omega)]
 unfold xG
 rw[if_pos e,Int.toNat_natCast]
theorem EH {l v p:List Nat}{n:Bool}(hd:∀c∈v++p,48≤c∧c≤57) (hn:(v++p).length≤1000):aD false Tryz.prog 75 [⟨103,0,[tv (.string (aC l)),tv (.bool n),tv (.string (aC v)),tv (.string (aC p))]⟩] [.one (.pt 0 0)] (Rt [⟨103,0,[tv (.string (aC l)),tv (.bool n),tv (.string (aC v)),tv (.string (aC p))]⟩] (qF (.of (Rat.divInt (bF n (bU (v++p))) (((10^p.length):Nat):Int))))):=by
 refine Dp Tryz.func75 rfl Tryz.ntmps75 rfl aA rfl fun N9 M9 w9 c0 h0=>?_
 have hV:Lim 256 (v++p):=fun c hc=>by have:=hd c hc;omega
 have hlv:v.length+p.length=(v++p).length:=(List.length_append).symm
 have hst:=DF hd (by omega)
 have hpw:xG 10 (p.length:Int)=10^p.length:=EG (by omega)
 refine sq ?_;refine rl ?_;refine al 1 ?_;refine nl ?_;refine sq ?_;refine rd [0,1] (fun i=>[10].contains i) mixed ?_
 refine dv 0 ?_;refine dv 1 ?_;refine dv 2 ?_;refine aX 3 ?_;refine dv 4 ?_;refine dv 5 ?_;refine dv 6 ?_;refine aX 7 ?_;refine dv 8 ?_ (hC:=(by rw[aG,aG];omega))
 refine WD.cast (t:=18) (u':=.string (aC (v++p))) rfl (congrArg Value.string (nT _ _)) ?_
 refine aJ 9 rfl (wZ hV) Tl ⟨a1 rfl,a1 rfl,rfl⟩ (.one (tv (.string (aC ((v++p).dropWhile (· ==48)))))) ?_
 refine dR 10 (by kernel_rfl) rfl rfl aA rfl (by trivial) ?_ (fun h=>by first | rfl | cases h)
 refine aS ?_
 refine md (γ:=Unit) (fun _=>cK [(0,.one (.pt 0 0)),(2,.one (.pt 1 0)),(3,.one (tv (.string (aC (kT (v++p))))))]) (fun _=>([⟨103,0,[tv (.string (aC l)),tv (.bool n),tv (.string (aC v)),tv (.string (aC p))]⟩,⟨27,0,[tv (.bool false),tv (.slice none 0 0),tv (.bool false),tv (.slice none 0 0)]⟩]:List Ob).map some) (fun _=>True) ?_ fun _ _=>?_
 ·refine sq ?_;refine rl ?_;refine o1 ?_;refine o1 ?_;refine WL.cast (t:=21) (u':=.bool (decide (((v++p).dropWhile (· ==48))=[]))) rfl (congrArg Value.bool (gZ (kC hV))) ?_
  refine nl ?_;refine jV rfl (fun h1=>?_) (fun h1=>?_)
  ·refine rl ?_;refine o1 ?_;refine nl ?_
   exact⟨(),trivial,Dq h0 [0,1] _ _ (by decide) rfl ⟨rfl,rfl,(congrArg (fun b=>some (FV.one (tv (.string (aC b))))) (show(kT (v++p))=[48] by unfold kT;rw[if_pos (of_decide_eq_true h1)])),trivial⟩ ⟨oe rfl rfl,oe rfl rfl,rfl⟩⟩
  refine sk ?_
  exact⟨(),trivial,Dq h0 [0,1] _ _ (by decide) rfl ⟨rfl,rfl,(congrArg (fun b=>some (FV.one (tv (.string (aC b))))) (show(kT (v++p))=((v++p).dropWhile (· ==48)) by unfold kT;rw[if_neg (of_decide_eq_false h1)])),trivial⟩ ⟨oe rfl rfl,oe rfl rfl,rfl⟩⟩
 refine sq ?_;refine rl ?_;refine o1 ?_
 refine ca (Zr (l:=(kT (v++p))) (Yz hV) (Nat.le_trans Ik (by omega))) JZ ⟨a1 rfl,rfl⟩ (.tup [.one (.t (sU false (dg 4294967296 (Ij (kT (v++p)))))),.one (tv (.int .i64 (rT (kT (v++p)))))]) ?_
 (iterate 5 refine o1 ?_);refine nl ?_;refine sq ?_;refine rl ?_;(iterate 3 refine o1 ?_);refine ld ?_;refine o1 ?_
 refine WL.cast (t:=32) (u':=.int .i64 ((p.length:Nat):Int)) rfl (congrArg (fun n:Nat=>Value.int .i64 (n:Int)) (aG _)) ?_
 refine ca (JR (x:=10) (n:=(p.length:Int)) (by omega)) KA ⟨a1 rfl,a1 rfl,rfl⟩ (.tup [.one (.t (sU false (dg 4294967296 (xG 10 (p.length:Int))))),.one (tv (.int .i64 (sS (p.length:Int))))]) ?_
 (iterate 5 refine o1 ?_);refine nl ?_;refine sq ?_;refine rl ?_;(iterate 3 refine o1 ?_);refine ld ?_;(iterate 4 refine o1 ?_)
 refine ca (Mg (a:=⟨n,(dg 4294967296 (Ij (kT (v++p))))⟩) (b:=⟨false,(dg 4294967296 (xG 10 (p.length:Int)))⟩) (k:=bF n (bU (v++p))) (k':=(((10^p.length):Nat):Int)) ⟨aK (by omega) _,by dsimp only;rw[hst.2];exact Nat.le_trans (Dm hd) (by omega),by dsimp only;rw[hst.2];exact Za n _⟩ ⟨aK (by omega) _,by dsimp only;rw[hpw];exact Nat.le_trans (yZ _) (by omega),by dsimp only;rw[hpw];exact lC _⟩) Tq ⟨aB rfl,aB rfl,rfl⟩ (.tup [qF (.of (Rat.divInt (bF n (bU (v++p))) (((10^p.length):Nat):Int))),.one (tv (.int .i64 (if(((10^p.length):Nat):Int)=0 then 20 else 0)))]) ?_
 (iterate 3 refine o1 ?_);refine al 2 ?_;refine st ?_;refine o1 ?_;refine nl ?_;refine sq ?_;refine rl ?_;refine ld ?_;refine st ?_;refine nl ?_;refine rt ?_
 exact kV (lent':=[⟨103,0,[tv (.string (aC l)),tv (.bool n),tv (.string (aC v)),tv (.string (aC p))]⟩]) (.inl rfl) rfl (aR (.agg (.cons (.id rfl) (.cons (.id rfl) (.cons (.id rfl) (.cons (.id rfl) .nil)))))) (by decide) (fun _ h=>by cases h) ⟨⟨rfl,rfl⟩,trivial⟩ ⟨rfl,trivial⟩ ⟨rfl,trivial⟩ (fun h=>by cases h) ⟨rfl,rfl⟩
theorem xJ {l:List Nat}{m:Nat}(h:gN l=false∨m<(pl (aE l)).length):dY l m=60:=by
 unfold dY
 rw[if_neg]
 rintro⟨h1,h2⟩
 rcases h with h | h
 ·rw[h]at h1;cases h1
 omega
theorem EI {l:List Nat}{m:Nat}(h:gN l=true) (h2:(pl (aE l)).length≤m) (h3:40<(wh (aE l)).length+(pl (aE l)).length):dY l m=3:=by
 unfold dY
 rw[if_pos ⟨h,h2⟩,if_pos h3]
theorem EJ {l:List Nat}{m:Nat}(h:gN l=true) (h2:(pl (aE l)).length≤m) (h3:¬40<(wh (aE l)).length+(pl (aE l)).length):dY l m=0:=by
 unfold dY
 rw[if_pos ⟨h,h2⟩,if_neg h3]
theorem zJ {l:List Nat}{m:Nat}(hl:Lim 256 l) (hn:l.length≤1000000):aD false Tryz.prog 31 [] [.one (tv (.string (aC l))),.one (tv (.int .i64 ((m:Nat):Int)))] (aL (.tup [qF (.of (cP l m)),.one (tv (.int .i64 (dY l m)))])):=by
 refine bE Tryz.func31 rfl Tryz.ntmps31 rfl aA rfl fun N9 w9 c0 h0=>?_
 have hwl:=sH (aE l)
 have hnL:=Nat.le_trans (yV (l:=l)) hn
 refine sq ?_;refine rl ?_;refine al 0 ?_;refine o1 ?_;refine nl ?_;refine sq ?_;refine rl ?_;(iterate 3 refine o1 ?_);refine bx 1 ?_;refine o1 ?_;refine nl ?_;refine sq ?_;refine bl ?_
 refine sq ?_;refine rl ?_;refine o1 ?_
 refine cl 2 [1] (EF hl hn) JX ⟨oe rfl rfl,rfl⟩ ⟨rfl,rfl⟩ (ok:=[some ⟨103,0,[tv (.string (aC (rr (aE l)))),tv (.bool (cY l)),tv (.string (aC (wh (aE l)))),tv (.string (aC (pl (aE l))))]⟩]) ⟨oe rfl rfl,rfl⟩ ?_
 refine WL.splitb (t:=13) rfl (fun h1=>?_) (fun h1=>?_)
 ·(iterate 5 refine o1 ?_);refine ld ?_;refine o1 ?_
  refine WL.cast (t:=20) (u':=.int .i64 (((pl (aE l)).length:Nat):Int)) rfl (congrArg (fun n:Nat=>Value.int .i64 (n:Int)) (aG _)) ?_
  (iterate 4 refine o1 ?_);refine nl ?_;refine bQ rfl (fun h2=>?_) (fun h2=>?_)
  ·refine sq ?_;refine rl ?_;refine ca (dU (z:=0) (by omega) (by omega)) jD ⟨a1 rfl,rfl⟩ (qF (.of ((0:Int):Rat))) ?_
   refine st ?_;refine o1 ?_;refine nl ?_;refine rt ?_;have he:dY l m=60:=xJ (.inr (by omega))
   have hq:cP l m=((0:Int):Rat):=(if_neg (by rw[he];decide))
   exact en (.inl rfl) rfl (cV (.cons (.agg (.cons (.id rfl) (.cons (.id rfl) (.cons (.id rfl) (.cons (.id rfl) .nil))))) (.cons (aN _) .nil))) (by decide) (fun h=>by cases h) (by rw[he,hq];rfl)
  refine sq ?_;refine rd [0,1] (fun i=>[].contains i) mixed ?_
  refine dv 0 ?_;refine dv 1 ?_;refine dv 2 ?_;refine aX 3 ?_;refine dv 4 ?_
  refine WD.cast (t:=30) (u':=.int .i64 (((wh (aE l)).length:Nat):Int)) rfl (congrArg (fun n:Nat=>Value.int .i64 (n:Int)) (aG _)) ?_
  refine dv 5 ?_;refine dv 6 ?_;refine dv 7 ?_;refine aX 8 ?_;refine dv 9 ?_
  refine WD.cast (t:=35) (u':=.int .i64 (((pl (aE l)).length:Nat):Int)) rfl (congrArg (fun n:Nat=>Value.int .i64 (n:Int)) (aG _)) ?_
  refine dv 10 ?_;refine WD.cast (t:=36) (u':=.int .i64 (((wh (aE l)).length+((pl (aE l)).length):Nat):Int)) rfl (aH (by omega)) ?_
  refine dv 11 ?_;refine dR 12 (by kernel_rfl) rfl rfl aA rfl (by trivial) ?_ (fun h=>by first | rfl | cases h)
  refine aS ?_;refine bQ rfl (fun h3=>?_) (fun h3=>?_)
  ·refine sq ?_;refine rl ?_;refine ca (dU (z:=0) (by omega) (by omega)) jD ⟨a1 rfl,rfl⟩ (qF (.of ((0:Int):Rat))) ?_
   refine st ?_;refine o1 ?_;refine nl ?_;refine rt ?_;have he:dY l m=3:=EI h1 (by omega) (by omega)
   have hq:cP l m=((0:Int):Rat):=(if_neg (by rw[he];decide))
   exact en (.inl rfl) rfl (cV (.cons (.agg (.cons (.id rfl) (.cons (.id rfl) (.cons (.id rfl) (.cons (.id rfl) .nil))))) (.cons (aN _) .nil))) (by decide) (fun h=>by cases h) (by rw[he,hq];rfl)
  refine sk ?_;refine sq ?_;refine rl ?_;refine o1 ?_
  refine cl 2 [1] (EH (l:=(rr (aE l))) (n:=(cY l)) (v:=(wh (aE l))) (p:=(pl (aE l))) (Ta _) (by rw[List.length_append];omega)) JY ⟨oe rfl rfl,rfl⟩ ⟨rfl,rfl⟩ (ok:=[some ⟨103,0,[tv (.string (aC (rr (aE l)))),tv (.bool (cY l)),tv (.string (aC (wh (aE l)))),tv (.string (aC (pl (aE l))))]⟩]) ⟨oe rfl rfl,rfl⟩ ?_
  refine st ?_;refine o1 ?_;refine nl ?_;refine rt ?_;have he:dY l m=0:=EJ h1 (by omega) (by omega)
  have hq:cP l m=uT l:=if_pos he
  exact en (.inl rfl) rfl (cV (.cons (.agg (.cons (.id rfl) (.cons (.id rfl) (.cons (.id rfl) (.cons (.id rfl) .nil))))) (.cons (aN _) .nil))) (by decide) (fun h=>by cases h) (by rw[he,hq];rfl)
 refine o1 ?_;refine o1 ?_;(iterate 7 refine cL ?_);refine o1 ?_;refine o1 ?_;refine nl ?_;refine gJ rfl ?_;refine sq ?_;refine rl ?_
 refine ca (dU (z:=0) (by omega) (by omega)) jD ⟨a1 rfl,rfl⟩ (qF (.of ((0:Int):Rat))) ?_
 refine st ?_;refine o1 ?_;refine nl ?_;refine rt ?_;have he:dY l m=60:=xJ (.inl h1)
 have hq:cP l m=((0:Int):Rat):=(if_neg (by rw[he];decide))
 exact en (.inl rfl) rfl (cV (.cons (.agg (.cons (.id rfl) (.cons (.id rfl) (.cons (.id rfl) (.cons (.id rfl) .nil))))) (.cons (aN _) .nil))) (by decide) (fun h=>by cases h) (by rw[he,hq];rfl)
theorem Jb {l:List Nat}(hl:Lim 256 l) (hn:l.length≤1000000):aD false Tryz.prog 8 [] [.one (tv (.string (aC l)))] (aL (.tup [qF (.of (cP l l.length)),.one (tv (.int .i64 (dY l l.length)))])):=by
 refine bE Tryz.func8 rfl Tryz.ntmps8 rfl aA rfl fun N9 w9 c0 h0=>?_
 refine sq ?_;refine rl ?_;refine al 0 ?_;refine o1 ?_;refine nl ?_;refine sq ?_;refine rl ?_;(iterate 3 refine o1 ?_)
 refine WL.cast (t:=6) (u':=.int .i64 ((l.length:Nat):Int)) rfl (congrArg (fun n:Nat=>Value.int .i64 (n:Int)) (aG _)) ?_
 refine ca (zJ (l:=l) (m:=l.length) hl hn) Tt ⟨a1 rfl,a1 rfl,rfl⟩ (.tup [qF (.of (cP l l.length)),.one (tv (.int .i64 (dY l l.length)))]) ?_;refine o1 ?_;refine o1 ?_;refine st ?_
 refine o1 ?_;refine nl ?_;refine rt ?_
 exact en (.inl rfl) rfl (cV (.cons (.agg (.cons (.id rfl) (.cons (.id rfl) (.cons (.id rfl) (.cons (.id rfl) .nil))))) (.cons (aN _) .nil))) (by decide) (fun h=>by cases h) rfl
theorem vQ {l:List Nat}(hl:Lim 256 l) (hn:l.length≤1000000):aD false Tryz.prog 9 [] [.one (tv (.string (aC l)))] (aL (.tup [qF (.of (cP l 2)),.one (tv (.int .i64 (dY l 2)))])):=by
 refine bE Tryz.func9 rfl Tryz.ntmps9 rfl aA rfl fun N9 w9 c0 h0=>?_
 refine sq ?_;refine rl ?_;refine al 0 ?_;refine o1 ?_;refine nl ?_;refine sq ?_;refine rl ?_;refine o1 ?_
 refine ca (zJ (l:=l) (m:=2) hl hn) Tt ⟨a1 rfl,a1 rfl,rfl⟩ (.tup [qF (.of (cP l 2)),.one (tv (.int .i64 (dY l 2)))]) ?_;refine o1 ?_;refine o1 ?_;refine st ?_;refine o1 ?_
 refine nl ?_;refine rt ?_
 exact en (.inl rfl) rfl (cV (.cons (.agg (.cons (.id rfl) (.cons (.id rfl) (.cons (.id rfl) (.cons (.id rfl) .nil))))) (.cons (aN _) .nil))) (by decide) (fun h=>by cases h) rfl
def eP (l:List Nat):Int:=if iC 37 l=true∧dY (cQ 37 l) 4=0∧0≤(cP (cQ 37 l) 4)∧(cP (cQ 37 l) 4)≤((100:Int):Rat)then 0 else 60
def fC (l:List Nat):Rat:=if eP l=0 then(cP (cQ 37 l) 4)/((100:Int):Rat)else 0
theorem kJ {l:List Nat}(h:iC 37 l=false∨dY (cQ 37 l) 4≠0∨(cP (cQ 37 l) 4)<0∨((100:Int):Rat)<(cP (cQ 37 l) 4)):eP l=60:=by
 unfold eP
 rw[if_neg]
 rintro⟨h1,h2,h3,h4⟩
 rcases h with h | h | h | h
 ·rw[h]at h1;cases h1
 ·exact h h2
 ·exact Rat.not_lt.2 h3 h
 exact Rat.not_lt.2 h4 h
theorem Es {l:List Nat}(h1:iC 37 l=true) (h2:dY (cQ 37 l) 4=0) (h3:¬(cP (cQ 37 l) 4)<0) (h4:¬((100:Int):Rat)<(cP (cQ 37 l) 4)):eP l=0:=if_pos ⟨h1,h2,Rat.not_lt.1 h3,Rat.not_lt.1 h4⟩
theorem EK {l:List Nat}(h:(wh (aE l)).length+(pl (aE l)).length≤40):Sz 41 (uT l):=by
 have h1:=Dm (Ta (aE l))
 rw[List.length_append]at h1
 have h2:=yZ (pl (aE l)).length
 have h3:0<10^(pl (aE l)).length:=Nat.pow_pos (by omega)
 have h5:=iH (a:=bF (cY l) (bU (wh (aE l)++pl (aE l)))) (b:=((10^(pl (aE l)).length:Nat):Int)) (L:=41) (M:=41) (by omega) (by unfold mG;cases cY l <;> simp only[bF,if_true,if_false,Bool.false_eq_true,Int.natAbs_neg,Int.natAbs_natCast] <;> omega) (by unfold mG;rw[Int.natAbs_natCast];omega)
 exact⟨h5.1,h5.2⟩
theorem sW (l:List Nat) (m:Nat):Sz 41 (cP l m):=by
 unfold cP
 split
 ·rename_i h
  refine EK ?_
  unfold dY at h
  split at h
  ·split at h
   ·cases h
   omega
  cases h
 exact(cS (z:=0) (by omega) (by omega)).mono (by omega)
theorem pU {l:List Nat}(hl:Lim 256 l) (hn:l.length≤1000000):aD false Tryz.prog 10 [] [.one (tv (.string (aC l)))] (aL (.tup [qF (.of (fC l)),.one (tv (.int .i64 (eP l)))])):=by
 refine bE Tryz.func10 rfl Tryz.ntmps10 rfl aA rfl fun N9 w9 c0 h0=>?_
 have hX:Sz 68719476736 (cP (cQ 37 l) 4):=(sW _ 4).mono (by omega)
 refine sq ?_;refine rl ?_;refine al 0 ?_;refine o1 ?_;refine nl ?_;refine sq ?_;refine rl ?_;refine o1 ?_
 refine ca (Dy hl (by omega)) NE ⟨a1 rfl,a1 rfl,rfl⟩ (.tup [.one (tv (.string (aC (cQ 37 l)))),.one (tv (.bool (iC 37 l)))]) ?_
 (iterate 5 refine o1 ?_);refine nl ?_;refine sq ?_;refine rl ?_;refine o1 ?_
 refine ca (zJ (l:=(cQ 37 l)) (m:=4) (Pd hl) (Nat.le_trans Ds hn)) Tt ⟨a1 rfl,a1 rfl,rfl⟩ (.tup [qF (.of (cP (cQ 37 l) 4)),.one (tv (.int .i64 (dY (cQ 37 l) 4)))]) ?_
 (iterate 3 refine o1 ?_);refine al 1 ?_;refine st ?_;refine o1 ?_;refine nl ?_;refine sq ?_;refine sq ?_;refine rd [0,1] (fun i=>[].contains i) mixed ?_
 refine dv 0 ?_;refine WD.splitb (t:=18) rfl (fun h1=>?_) (fun h1=>?_)
 ·refine dv 1 ?_;refine dv 2 ?_;refine dv 3 ?_;refine dv 4 ?_;refine dv 5 ?_;refine dv 6 ?_;refine WD.split (t:=24) rfl rfl (fun h2=>?_) (fun h2=>?_)
  ·refine dH 7 ?_;refine dH 8 ?_;refine dH 9 ?_;refine dv 10 ?_;refine dv 11 ?_;refine dH 12 ?_;refine dH 13 ?_;refine dH 14 ?_;refine dH 15 ?_;refine dv 16 ?_;refine aS ?_
   refine gJ rfl ?_;refine sq ?_;refine rl ?_;refine ca (dU (z:=0) (by omega) (by omega)) jD ⟨a1 rfl,rfl⟩ (qF (.of ((0:Int):Rat))) ?_
   refine st ?_;refine o1 ?_;refine nl ?_;refine rt ?_;have he:eP l=60:=kJ (.inr (.inl (by omega)))
   have hq:fC l=((0:Int):Rat):=if_neg (by rw[he];decide)
   exact en (.inl rfl) rfl (cV (.cons (.agg (.cons (.id rfl) (.cons (.id rfl) (.cons (.id rfl) (.cons (.id rfl) .nil))))) (.cons (aN _) .nil))) (by decide) (fun h=>by cases h) (by rw[he,hq];rfl)
  refine aX 7 ?_;refine aJ 8 rfl (Ek (Qn.of (p:=(cP (cQ 37 l) 4)) hX)) Tu ⟨aB rfl,rfl⟩ (.one (tv (.int .i64 (cP (cQ 37 l) 4).num.sign))) ?_;refine df 9 ?_;refine df 10 ?_
  refine df 11 ?_;refine WD.split (t:=29) rfl rfl (fun h3=>?_) (fun h3=>?_)
  ·refine dH 12 ?_;refine dH 13 ?_;refine dH 14 ?_;refine dH 15 ?_;refine df 16 ?_;refine aS ?_;refine gJ rfl ?_;refine sq ?_;refine rl ?_
   refine ca (dU (z:=0) (by omega) (by omega)) jD ⟨a1 rfl,rfl⟩ (qF (.of ((0:Int):Rat))) ?_
   refine st ?_;refine o1 ?_;refine nl ?_;refine rt ?_;have he:eP l=60:=kJ (.inr (.inr (.inl (lI.1 (Int.sign_neg_iff.1 h3)))))
   have hq:fC l=((0:Int):Rat):=if_neg (by rw[he];decide)
   exact en (.inl rfl) rfl (cV (.cons (.agg (.cons (.id rfl) (.cons (.id rfl) (.cons (.id rfl) (.cons (.id rfl) .nil))))) (.cons (aN _) .nil))) (by decide) (fun h=>by cases h) (by rw[he,hq];rfl)
  refine aX 12 ?_;refine aJ 13 rfl (dU (z:=100) (by omega) (by omega)) jD ⟨a1 rfl,rfl⟩ (qF (.of ((100:Int):Rat))) ?_
  refine aJ 14 rfl (Mf (Qn.of (p:=(cP (cQ 37 l) 4)) hX) (Qn.of (p:=((100:Int):Rat)) (cS (by omega) (by omega)))) zK ⟨aB rfl,aB rfl,rfl⟩ (.one (tv (.int .i64 ((cP (cQ 37 l) 4)-((100:Int):Rat)).num.sign))) ?_
  refine df 15 ?_;refine df 16 ?_;refine aS ?_;refine bQ rfl (fun h4=>?_) (fun h4=>?_)
  ·refine sq ?_;refine rl ?_;refine ca (dU (z:=0) (by omega) (by omega)) jD ⟨a1 rfl,rfl⟩ (qF (.of ((0:Int):Rat))) ?_
   refine st ?_;refine o1 ?_;refine nl ?_;refine rt ?_;have he:eP l=60:=kJ (.inr (.inr (.inr (DJ h4))))
   have hq:fC l=((0:Int):Rat):=if_neg (by rw[he];decide)
   exact en (.inl rfl) rfl (cV (.cons (.agg (.cons (.id rfl) (.cons (.id rfl) (.cons (.id rfl) (.cons (.id rfl) .nil))))) (.cons (aN _) .nil))) (by decide) (fun h=>by cases h) (by rw[he,hq];rfl)
  refine sk ?_;refine sq ?_;refine rd [0] (fun i=>[].contains i) mixed ?_
  refine WO.two (i:=0) (j:=1) (by kernel_rfl) ?_ ?_
  ·refine eU 0 ?_;refine aJ 1 rfl (dU (z:=100) (by omega) (by omega)) jD ⟨a1 rfl,rfl⟩ (qF (.of ((100:Int):Rat))) ?_
   refine aJ 2 rfl (Wv (Qn.of (p:=(cP (cQ 37 l) 4)) hX) (Qn.of (p:=((100:Int):Rat)) (cS (by omega) (by omega)))) EL ⟨aB rfl,aB rfl,rfl⟩ (.tup [qF (.of ((cP (cQ 37 l) 4)/((100:Int):Rat))),.one (tv (.int .i64 (if((100:Int):Rat)=0 then 20 else 0)))]) ?_
   refine df 3 ?_;refine df 4 ?_;refine df 5 ?_;refine aV 6 (by kernel_rfl) rfl rfl aA rfl rfl rfl rfl ⟨rfl,trivial⟩ ?_
   refine aS ?_;refine sq ?_;refine rl ?_;refine ld ?_;refine st ?_;refine o1 ?_;refine nl ?_;refine rt ?_
   have he:eP l=0:=Es h1 (by omega) (fun h9=>h3 (Int.sign_neg_iff.2 (lI.2 h9))) (fun h9=>h4 (Io h9))
   have hq:fC l=(cP (cQ 37 l) 4)/((100:Int):Rat):=if_pos he
   exact en (.inl rfl) rfl (cV (.cons (.agg (.cons (.id rfl) (.cons (.id rfl) (.cons (.id rfl) (.cons (.id rfl) .nil))))) (.cons (aN _) .nil))) (by decide) (fun h=>by cases h) (by rw[he,hq];rfl)
  refine cZ 1 rfl (dU (z:=100) (by omega) (by omega)) jD ⟨a1 rfl,rfl⟩ (qF (.of ((100:Int):Rat))) ?_
  refine WO.one (by kernel_rfl) (eU 0 ?_)
  refine aJ 2 rfl (Wv (Qn.of (p:=(cP (cQ 37 l) 4)) hX) (Qn.of (p:=((100:Int):Rat)) (cS (by omega) (by omega)))) EL ⟨aB rfl,aB rfl,rfl⟩ (.tup [qF (.of ((cP (cQ 37 l) 4)/((100:Int):Rat))),.one (tv (.int .i64 (if((100:Int):Rat)=0 then 20 else 0)))]) ?_
  refine df 3 ?_;refine df 4 ?_;refine df 5 ?_;refine aV 6 (by kernel_rfl) rfl rfl aA rfl rfl rfl rfl ⟨rfl,trivial⟩ ?_
  refine aS ?_;refine sq ?_;refine rl ?_;refine ld ?_;refine st ?_;refine o1 ?_;refine nl ?_;refine rt ?_
  have he:eP l=0:=Es h1 (by omega) (fun h9=>h3 (Int.sign_neg_iff.2 (lI.2 h9))) (fun h9=>h4 (Io h9))
  have hq:fC l=(cP (cQ 37 l) 4)/((100:Int):Rat):=if_pos he
  exact en (.inl rfl) rfl (cV (.cons (.agg (.cons (.id rfl) (.cons (.id rfl) (.cons (.id rfl) (.cons (.id rfl) .nil))))) (.cons (aN _) .nil))) (by decide) (fun h=>by cases h) (by rw[he,hq];rfl)
 refine dv 1 ?_;refine dv 2 ?_;refine dH 3 ?_;refine dH 4 ?_;refine dv 5 ?_;refine dv 6 ?_;refine dH 7 ?_;refine dH 8 ?_;refine dH 9 ?_;refine dv 10 ?_;refine dv 11 ?_
 refine dH 12 ?_;refine dH 13 ?_;refine dH 14 ?_;refine dH 15 ?_;refine dv 16 ?_;refine aS ?_;refine gJ rfl ?_;refine sq ?_;refine rl ?_
 refine ca (dU (z:=0) (by omega) (by omega)) jD ⟨a1 rfl,rfl⟩ (qF (.of ((0:Int):Rat))) ?_
 refine st ?_;refine o1 ?_;refine nl ?_;refine rt ?_;have he:eP l=60:=kJ (.inl h1)
 have hq:fC l=((0:Int):Rat):=if_neg (by rw[he];decide)
 exact en (.inl rfl) rfl (cV (.cons (.agg (.cons (.id rfl) (.cons (.id rfl) (.cons (.id rfl) (.cons (.id rfl) .nil))))) (.cons (aN _) .nil))) (by decide) (fun h=>by cases h) (by rw[he,hq];rfl)
theorem Av {P:Program}{w w':World}{t t2 ty e:TypeId}{ii:TypeInfo}{z bb o n cp m c q:Nat}{A:Option Addr}{cells:List Value}(hm:Nat.min m n=q) (hu:P.underlying t=some (.slice e)) (hi:P.info? e=some ii) (hsz:ii.size=z)
  (hl:(Builtin.firstCells z q (.slice A m c)).run P w=.ok cells.toArray w) (hst:(storeCells ⟨bb,o,none⟩ cells).run P w=.ok () w'):
  (Builtin.copy_ #[t,t2] ty #[.slice (some ⟨bb,o,none⟩) n cp,.slice A m c]).run P w=.ok (.int .i64 (q:Int)) w':=by
 simp[Builtin.copy_,run_underlying hu,Builtin.lenOf,sizeOf,typeInfo,hi,hsz,hm,hl,hst]
 rfl
theorem Po {P:Program}{w:World}{t t2 ty e:TypeId}{ii:TypeInfo}{z m c q:Nat}{A:Option Addr}{cells:Array Value}(hm:Nat.min m 0=q) (hu:P.underlying t=some (.slice e)) (hi:P.info? e=some ii) (hsz:ii.size=z)
  (hl:(Builtin.firstCells z q (.slice A m c)).run P w=.ok cells w):
  (Builtin.copy_ #[t,t2] ty #[.slice none 0 0,.slice A m c]).run P w=.ok (.int .i64 (q:Int)) w:=by
 obtain rfl:q=0:=hm.symm.trans (Nat.min_zero m)
 simp[Builtin.copy_,run_underlying hu,Builtin.lenOf,sizeOf,typeInfo,hi,hsz]
 rw[hl]
 rfl
theorem Tv {P:Program}{w:World}{B z m c nn:Nat}{A:Option Addr}{us:List Value}(h:Rd w B z A m c us) (hn:nn≤m):(Builtin.firstCells z nn (.slice A m c)).run P w=.ok (us.take (nn*z)).toArray w:=by
 have hl:(us.take (nn*z)).length=nn*z:=by rw[List.length_take,h.len];exact Nat.min_eq_left (Nat.mul_le_mul_right z hn)
 cases A with
 | none=>
  have h0:m=0:=by
   rcases Nat.eq_zero_or_pos m with h0 | h0
   ·exact h0
   obtain⟨ad,e,_⟩:=h.cell h0
   cases e
  have:nn=0:=by omega
  subst this
  simp[Builtin.firstCells]
 | some ad=>
  have key:=run_loadCells_list (P:=P) w ad (us.take (nn*z)) ?_
  ·rw[hl]at key
   exact key
  intro j v hj
  have hm:0<m:=by
   rcases Nat.eq_zero_or_pos m with h0 | h0
   ·subst h0
    have h1:=h.len
    have h2:us=[]:=List.eq_nil_of_length_eq_zero (by simpa using h1)
    rw[h2]at hj
    simp at hj
   exact h0
  obtain⟨ad',e,_,h3⟩:=h.cell hm
  injection e with e
  subst e
  rw[List.getElem?_take]at hj
  split at hj
  ·exact h3 j v hj
  cases hj
theorem Et:∀{l:List AV}(k:Nat),dZ l=true→dZ (l.take k)=true
 | [],k,_=>by rw[List.take_nil];rfl
 | _::_,0,_=>rfl
 | a::l,k+1,h=>by
  simp only[dZ,Bool.and_eq_true]at h
  simp only[List.take_succ_cons,dZ,Bool.and_eq_true]
  exact⟨h.1,Et k h.2⟩
theorem xK:∀{l:List AV}(k:Nat),cF l=true→cF (l.take k)=true
 | [],k,_=>by rw[List.take_nil];rfl
 | _::_,0,_=>rfl
 | a::l,k+1,h=>by
  simp only[cF,Bool.and_eq_true]at h
  simp only[List.take_succ_cons,cF,Bool.and_eq_true]
  exact⟨h.1,xK k h.2⟩
section
variable {x:Cx}{g:Nat→FV}{ob:List (Option Ob)}{T:List (Nat×TI)}{d:Nat}{ty:TypeId}{pos:String}{af:Array Edge}{gd:Option (Nat×Bool)}{Q:Post}{ops:Array Oper}{rest:List Oper}
theorem Jc (hT:bN x.P T){t t2 e z by_ n m k o nn:Nat}{zz:Value}{ti:Bool}{ts0:Nat}{z0:List Value}{a b:Operand}{bv:AV}{bo:Ob}{l' news:List AV}(ht:aY T t=some ⟨ti,ts0,z0,.sl e z by_ zz⟩) (ha:lk x.n g a=.one (.sl k o n)) (ho:bS ob k=some bo)
  (hb:lk x.n g b=.one bv) (hs:SrcA ob z bv m news) (hrd:dZ news=true) (hlo:cF news=true) (hnn:min m n=nn) (hle:o+nn*z≤bo.l.length) (hput:cM bo.l o (news.take (nn*z))=l'):
  OS x ⟨some d,.call ⟨.builtin .copy, #[a,b], #[t,t2]⟩,ty,pos,af,gd⟩ g ob [k] (fun g' ob2=>g'=aU g d (.one (tv (.int .i64 (nn:Int))))∧ob2=ob.set k (some ⟨bo.t,bo.z,l'⟩)):=by
 subst hput hnn
 obtain⟨ii,hu,hi,hsz⟩:=(cC hT ht).2.2.2.1
 intro cs ts W hR K Q kk
 have hk:=cO ho
 have hp:=hR.lk a
 rw[ha]at hp
 simp only[bB,bL,AR]at hp
 have hbv:=hR.lk b
 rw[hb]at hbv
 obtain⟨A,c,us,e2,hrd',har⟩:=hs.ok hrd hR hbv
 have hone:=mH har hlo
 have hul:us.length=news.length:=eO har
 have hfst:=Tv (P:=x.P) hrd' (Nat.min_le_left m n)
 have hfin:∀cs' W',(Builtin.copy_ #[t,t2] ty #[Act.eval ⟨ts,[]⟩ a,.slice A m c]).run x.P W=.ok (.int .i64 ((min m n:Nat):Int)) W'→RelC x g (ob.set k (some ⟨bo.t,bo.z,cM bo.l o (news.take (min m n*z))⟩)) cs' ts W'→
   (∀d,Aft [k] d ob cs ts W (ob.set k (some ⟨bo.t,bo.z,cM bo.l o (news.take (min m n*z))⟩)) cs' ts W')→Oper.wp x.P ⟨some d,.call ⟨.builtin .copy, #[a,b], #[t,t2]⟩,ty,pos,af,gd⟩ ⟨ts,[]⟩ W K Q:=by
  intro cs' W' hrun m1 m2
  have hrun':(execOp (Act.eval ⟨ts,[]⟩) ⟨some d,.call ⟨.builtin .copy, #[a,b], #[t,t2]⟩,ty,pos,af,gd⟩).run x.P W=.ok (.value (.int .i64 ((min m n:Nat):Int))) W':=by
   simp only[execOp,resolve,invoke,builtin,Sem.run_bind,Sem.run_pure,Result.andThen_ok,List.map_toArray,List.map_cons,List.map_nil,e2,hrun]
  refine dD hrun' ?_
  obtain⟨q1,q2,q3,q4,q5,q6⟩:=m2 (some d)
  exact kk _ _ _ _ _ ⟨rfl,rfl⟩ (m1.put d (eQ (by simp only[tv,AR,FR]))) ⟨q1,q2,q3,q4,q5,fun i hi=>Array.getElem?_setIfInBounds_ne (fun e=>hi (by rw[e]))⟩
 cases hbb:(co cs k).b with
 | none=>
  rw[hbb]at hp
  obtain⟨_,h1,h2,h3⟩:=hp
  subst h1 h2
  have e0:cM bo.l 0 (news.take (min m 0*z))=bo.l:=by simp[cM]
  have e1:(⟨bo.t,bo.z,cM bo.l 0 (news.take (min m 0*z))⟩:Ob)=bo:=by rw[e0]
  have e3:ob.set k (some bo)=ob:=by
   apply List.ext_getElem?
   intro j
   rw[List.getElem?_set]
   split
   ·rename_i h
    subst h
    rw[hk]
    simp
    exact(List.getElem?_eq_some_iff.1 hk).1
   rfl
  refine hfin cs W ?_ (by rw[e1,e3];exact hR) (fun d=>by rw[e1,e3];exact⟨.refl,fun _ _ _=>rfl,Nat.le_refl _,fun _ _ _=>rfl,fun _ h=>.inl h,fun _ _=>rfl⟩)
  rw[h3]
  exact Po rfl hu hi hsz hfst
 | some bb=>
  rw[hbb]at hp
  obtain⟨_,o',cp,h1,_,_,h2,_⟩:=hp
  have hA':ARL W (x.fr W ob cs) cs (news.take (min m n*z)) (us.take (min m n*z)):=nU _ har
  have hlt:(news.take (min m n*z)).length=min m n*z:=by
   rw[List.length_take,←hul,hrd'.len]
   exact Nat.min_eq_left (Nat.mul_le_mul_right z (Nat.min_le_left m n))
  obtain⟨W',c',hst,m1,m2⟩:=hR.over hk hbb hA' (Et _ hrd) (xK _ hlo) (by rw[hlt];exact hle)
  rcases Nat.eq_zero_or_pos (min m n)with h0 | h0
  ·-- nothing is written
   have hW:W'=W:=by
    rw[h0,Nat.zero_mul,List.take_zero]at hst
    simp[storeCells]at hst
    exact hst.symm
   subst hW
   refine hfin _ _ ?_ m1 m2
   rw[h1]
   refine Av rfl hu hi hsz hfst ?_
   rw[h0,Nat.zero_mul,List.take_zero]
   simp[storeCells]
  obtain rfl:=h2 (.inl (by omega))
  refine hfin _ _ ?_ m1 m2
  rw[h1]
  exact Av rfl hu hi hsz hfst hst
theorem EM {t e by_ k m:Nat}{zz:Value}{ti:Bool}{ts0:Nat}{z0:List Value}{k1 k2:IntKind}{a b:Operand}(hT:bN x.P T) (ht:aY T t=some ⟨ti,ts0,z0,.sl e 4 by_ zz⟩) (ha:lk x.n g a=.one (tv (.int k1 (m:Int)))) (hb:lk x.n g b=.one (tv (.int k2 (m:Int)))) (hby:by_≤128) (hm:m≤1000000) (hk:dL ob k=true):
  OS x ⟨some d,.makeSlice t a b,ty,pos,af,gd⟩ g ob [] (fun g' ob2=>g'=aU g d (.one (.sl k 0 m))∧∃us:List Value,us.length=m*4∧ob2=ob++[some ⟨e,4,us.map tv⟩]):=by
 obtain⟨_,hel⟩:=(cC hT ht).2.2.2
 obtain⟨hu,i,hi,hz,hsize,hby',hzs,hsz⟩:=hel
 subst hby'
 have hk:=Nat.eq_of_beq_eq_true hk
 subst hk
 intro cs ts W hR K Q' kk'
 have e1:=hR.lk a
 rw[ha]at e1
 have e1:=aP e1
 have e2:=hR.lk b
 rw[hb]at e2
 have e2:=aP e2
 have hmul:i.bytes*m≤128*1000000:=Nat.mul_le_mul hby hm
 obtain⟨w',hrun,h1,h2⟩:=run_make_full (P:=x.P) W 0 t e i zz 4 hu hi hz hsize k1 k2 m (by omega) (by unfold maxLen;omega) (Nat.zero_le _)
 have hrun':(execOp (Act.eval ⟨ts,[]⟩) ⟨some d,.makeSlice t a b,ty,pos,af,gd⟩).run x.P W=.ok (.value (.slice (some ⟨W.heap.size,0,none⟩) m m)) w':=by
  simp[execOp,e1,e2,hrun]
 have hul:(madeCells zz.cells (m*4)).toList.length=m*4:=by simp[madeCells]
 generalize (madeCells zz.cells (m*4)).toList=us at h1 hul
 have hbl:Below W.heap.size W w':=(Below.refl _ _).grown h2 (Nat.le_refl _) (fun k hk=>by cases hk)
 rcases h1.2 with⟨hh,_⟩ | ⟨g1,cap,cur,hv,_,hg,hnc,hcm,hcs,htake⟩
 ·injection hh with h3;cases h3
 injection hv with q1 q2 q3
 injection q1 with q1
 injection q1 with q1
 subst q1 q3
 have hlt:W.heap.size<w'.heap.size:=(Array.getElem?_eq_some_iff.1 hg).1
 have hcur:cur.toList=us:=by
  have h9:cur.toList.length=m*4:=by simpa using hcs
  rw[←htake,List.take_of_length_le (by omega)]
 have hS:∀b∈(aM (some ⟨e,4,us.map tv⟩) ⟨some W.heap.size,m,us.map .w⟩).S,W.heap.size≤b∧b<w'.heap.size:=by
  intro b hb
  simp[aM,iX]at hb
  subst hb
  exact⟨Nat.le_refl _,hlt⟩
 have hown:∀b∈bZ (ob++[some ⟨e,4,us.map tv⟩]) (cs++[⟨some W.heap.size,m,us.map .w⟩]),b∈bZ ob cs∨W.heap.size≤b:=by
  intro b hb
  unfold bZ aF at hb
  rw[List.zipWith_append hR.len,List.flatMap_append,List.mem_append]at hb
  rcases hb with hb | hb
  ·exact .inl hb
  exact .inr (hS b (by simpa using hb)).1
 have m1:RelC x g (ob++[some ⟨e,4,us.map tv⟩]) (cs++[⟨some W.heap.size,m,us.map .w⟩]) ts w':=by
  refine hR.push hbl _ _ ?_ hS (by simp[aM,iX]) ?_ (fun e=>by cases e)
  ·simp only[aM,oR]
   refine⟨⟨[],?_,by simp[hul]⟩,oS _,hcm⟩
   rw[List.append_nil,hg,←hcur]
  exact nV (jG _) (pV _)
 refine dD hrun' (kk' _ _ _ _ _ ⟨rfl,us,hul,rfl⟩ (m1.put d ?_) ((Aft.mk .app (fun k _ hk=>mI hk) hbl.size (fun b hlt _=>hbl.block b hlt) hown (fun _ _=>rfl):Aft [] (some d) ob cs ts W _ _ ts w').then_put _))
 refine eQ ?_
 simp only[AR]
 rw[hR.len,eZ]
 exact⟨by simp[hR.len],0,m,rfl,Nat.le_refl _,hcm,fun _=>rfl,fun _=>rfl⟩
theorem PY {t e by_ m:Nat}{zz:Value}{ti:Bool}{ts0:Nat}{z0:List Value}{k1 k2:IntKind}{a b:Operand}(key:Nat) (hm:m≤1000000) (k:∀us:List Value,us.length=m*4→WL x ops rest (aU g d (.one (.sl key 0 m))) (ob++[some ⟨e,4,us.map tv⟩]) Q) (hT:bN x.P ttab:=by exact aA) (hw:aW ops x.n g gd=some true:=by rfl)
  (ht:aY ttab t=some ⟨ti,ts0,z0,.sl e 4 by_ zz⟩:=by rfl) (ha:lk x.n g a=.one (tv (.int k1 (m:Int))):=by rfl) (hb:lk x.n g b=.one (tv (.int k2 (m:Int))):=by rfl) (hby:by_≤128:=by decide) (hk:dL ob key=true:=by rfl):WL x ops (⟨some d,.makeSlice t a b,ty,pos,af,gd⟩::rest) g ob Q:=by
 exact fB (EM hT ht ha hb hby hm hk) hw (by rintro _ _ ⟨rfl,us,hus,rfl⟩;exact k us hus)
theorem PZ {t t2 e z by_ n m k o nn:Nat}{zz:Value}{ti:Bool}{ts0:Nat}{z0:List Value}{a b:Operand}{bv:AV}{bo:Ob}{l' news:List AV}(hs:SrcA ob z bv m news) (hrd:dZ news=true) (hlo:cF news=true) (hnn:min m n=nn) (hle:o+nn*z≤bo.l.length) (hput:cM bo.l o (news.take (nn*z))=l')
  (kk:WL x ops rest (aU g d (.one (tv (.int .i64 (nn:Int))))) (ob.set k (some ⟨bo.t,bo.z,l'⟩)) Q) (hT:bN x.P ttab:=by exact aA) (hw:aW ops x.n g gd=some true:=by rfl) (ht:aY ttab t=some ⟨ti,ts0,z0,.sl e z by_ zz⟩:=by rfl) (ha:lk x.n g a=.one (.sl k o n):=by rfl) (ho:bS ob k=some bo:=by rfl)
  (hb:lk x.n g b=.one bv:=by rfl):WL x ops (⟨some d,.call ⟨.builtin .copy, #[a,b], #[t,t2]⟩,ty,pos,af,gd⟩::rest) g ob Q:=
 fB (Jc hT ht ha ho hb hs hrd hlo hnn hle hput) hw (by rintro _ _ ⟨rfl,rfl⟩;exact kk)
theorem NF {late:Nat→Bool}{fr:List Nat}{fuel:Nat}{listed:Array Bool}{t t2 e z by_ n m k o nn:Nat}{zz:Value}{ti:Bool}{ts0:Nat}{z0:List Value}{a b:Operand}{bv:AV}{bo:Ob}{l' news:List AV}(i:Nat) (hs:SrcA ob z bv m news) (hrd:dZ news=true) (hlo:cF news=true) (hnn:min m n=nn) (hle:o+nn*z≤bo.l.length) (hput:cM bo.l o (news.take (nn*z))=l')
  (kk:WD x ops Q late [] (d::fr) true fuel (listed.setIfInBounds i true) (aU g d (.one (tv (.int .i64 (nn:Int))))) (ob.set k (some ⟨bo.t,bo.z,l'⟩))) (hT:bN x.P ttab:=by exact aA) (hr:Region.ready .any ops listed=[i]:=by kernel_rfl) (hi:ops[i]? =some ⟨some d,.call ⟨.builtin .copy, #[a,b], #[t,t2]⟩,ty,pos,af,gd⟩:=by rfl) (hw:aW ops x.n g gd=some true:=by rfl)
  (ht:aY ttab t=some ⟨ti,ts0,z0,.sl e z by_ zz⟩:=by rfl) (ha:lk x.n g a=.one (.sl k o n):=by rfl) (ho:bS ob k=some bo:=by rfl) (hb:lk x.n g b=.one bv:=by rfl):WD x ops Q late [] fr true (fuel+1) listed g ob:=
 Wx i hr hi rfl hw (Jc hT ht ha ho hb hs hrd hlo hnn hle hput) (fun k h=>by cases h) (by rintro _ _ ⟨rfl,rfl⟩;exact⟨⟨_,rfl⟩,fun _ h=>by cases h⟩) (by rintro _ _ ⟨rfl,rfl⟩;exact kk)
end
section
variable {α:Type}{f:α→List Tr}{z k o:Nat}{xs:List α}{x x':α}{us:List Tr}
end
section
variable {x:Cx}{g:Nat→FV}{ob:List (Option Ob)}{ws:List Zi}{z:Zi}{i j k1 e key:Nat}{y a b:AV}
end
def eW (q:Rat):List Tr:=(Fr4.of q).tr false
theorem nC (q:Rat):(eW q).length=4:=rfl
theorem Zy (l:List Rat):l.flatMap eW=(pT l).flatMap (Fr4.tr false):=by
 unfold pT
 rw[List.flatMap_map]
 rfl
theorem EN {L:Nat}{l:List Rat}(h:∀q∈l,Sz L q) (hL:L≤68719476736):∀x∈pT l,x.ok:=fun x hx=>by
 obtain⟨q,hq,rfl⟩:=List.mem_map.1 hx
 exact(Qn.of (h q hq) hL).1
theorem EO {L:Nat}{l:List Rat}(h:∀q∈l,Sz L q):∀x∈pT l,Sz L x.q:=fun x hx=>by
 obtain⟨q,hq,rfl⟩:=List.mem_map.1 hx
 rw[Fr4.q_of]
 exact h q hq
section
variable {x:Cx}{g:Nat→FV}{ob:List (Option Ob)}
theorem ML {i k t z n:Nat}{l:List Tr}{fv fv':FV}(t':Nat) (hi:Nat.blt i x.n=true) (hg:g i=fv) (ho:bS ob k=some ⟨t,z,l.map .t⟩) (hz:l.length=n*z) (hf:FzF (.sl k 0 n) (.s false t' z n l) fv fv'):Sub x g ob (aU g i fv') (ob.set k none):=Jd hi hg ho hf (Eu t' ho hz)
end
theorem EP {k:Int}:aD true Tryz.prog 137 [] [kF k] (aL (.one (tv (.bool (decide (k%2=0)))))):=by
 refine bE Tryz.func137 rfl Tryz.ntmps137 rfl aA rfl fun N9 w9 c0 h0=>?_
 refine sq ?_;refine rl ?_;refine bx 0 ?_;refine o1 ?_;refine nl ?_;refine sq ?_;refine rl ?_;refine o1 ?_;refine ld ?_;(iterate 3 refine o1 ?_)
 refine WL.split (t:=7) rfl (fun h1=>?_) (fun h1=>?_)
 ·(iterate 6 refine cL ?_);refine o1 ?_;refine o1 ?_;refine nl ?_;refine rt ?_;have hk0:k.natAbs=0:=(dM (B:=4294967296) (by omega)).1 (List.eq_nil_of_length_eq_zero (by omega))
  exact mE (.inl rfl) rfl ((decide_eq_true (show k%2=0 by omega)).symm)
 have hk0:k.natAbs≠0:=Nat.pos_iff_ne_zero.1 (xB (B:=4294967296) (u:=k.natAbs) (by omega))
 have hdp:=lW (B:=4294967296) (n:=k.natAbs) (by omega) hk0
 have hn0:nth (dg 4294967296 k.natAbs) 0=k.natAbs%4294967296:=by rw[hdp];rfl
 refine o1 ?_;refine ld ?_;refine o1 ?_;refine kW ([.v (.int .u32 ((nth (dg 4294967296 (k).natAbs) (0):Nat):Int))]) (mJ (dg 4294967296 (k).natAbs) (k:=0) (by omega)) ?_
 refine o1 ?_;refine WL.cast (t:=12) (u':=.int .u32 (((nth (dg 4294967296 (k).natAbs) (0))%2:Nat):Int)) rfl (aH (fL _ 2)) ?_;(iterate 3 refine o1 ?_);refine nl ?_;refine rt ?_
 exact mE (.inl rfl) rfl (decide_eq_decide.2 (show _↔k%2=0 by rw[hn0];omega))
theorem Pp (xs:List Nat):((aO xs).map AV.t).take (aO xs).length=(aO xs).map .t:=List.take_of_length_le (by simp)
def sX (f r d:Int):Bool:=decide (d<2*r)||(decide (d=2*r)&& !decide (f%2=0))
theorem NG {f r d:Int}(h:0<(r+r-d).sign):true=sX f r d:=by
 have:=Int.sign_pos_iff.1 h
 unfold sX
 rw[decide_eq_true (show d<2*r by omega)]
 rfl
theorem NH {f r d:Int}(h:¬0<(r+r-d).sign) (h2:¬(r+r-d).sign=0):false=sX f r d:=by
 have h3:¬0<r+r-d:=fun h9=>h (Int.sign_pos_iff.2 h9)
 have h4:¬r+r-d=0:=fun h9=>h2 (Int.sign_eq_zero_iff_zero.2 h9)
 unfold sX
 rw[decide_eq_false (show¬d<2*r by omega),decide_eq_false (show¬d=2*r by omega)]
 rfl
theorem NI {f r d:Int}(h:¬0<(r+r-d).sign) (h2:(r+r-d).sign=0):(!decide (f%2=0))=sX f r d:=by
 have h4:=Int.sign_eq_zero_iff_zero.1 h2
 unfold sX
 rw[decide_eq_false (show¬d<2*r by omega),decide_eq_true (show d=2*r by omega)]
 rfl
theorem EQ {q:Rat}(h:sX (q.num.fdiv (q.den:Int)) (q.num.fmod (q.den:Int)) (q.den:Int)=true):hal q=q.num.fdiv (q.den:Int)+1:=by
 unfold hal
 rw[if_pos]
 unfold sX at h
 simp only[Bool.or_eq_true,Bool.and_eq_true,Bool.not_eq_true',decide_eq_true_eq,decide_eq_false_iff_not]at h
 exact h
theorem ER {q:Rat}(h:sX (q.num.fdiv (q.den:Int)) (q.num.fmod (q.den:Int)) (q.den:Int)=false):hal q=q.num.fdiv (q.den:Int):=by
 unfold hal
 rw[if_neg]
 intro h2
 unfold sX at h
 simp only[Bool.or_eq_false_iff,Bool.and_eq_false_iff,Bool.not_eq_false',decide_eq_true_eq,decide_eq_false_iff_not]at h
 rcases h2 with h2 | ⟨h2,h3⟩
 ·exact h.1 h2
 rcases h.2 with h4 | h4
 ·exact h4 h2
 exact h3 h4
theorem Tw {q:Rat}(h:q.num.fmod (q.den:Int)=0):hal q=q.num.fdiv (q.den:Int):=by
 have hd:(0:Int)<(q.den:Int):=by have:=q.den_pos;omega
 unfold hal
 rw[h,if_neg (by omega)]
theorem Zz {k k':Int}{p:Rat}(hs:Sz 68719476736 p) (hk2:(dg 4294967296 (k').natAbs).length≤68719476736):aD false Tryz.prog 136 [⟨115,1,(aO (dg 4294967296 (k).natAbs)).map .t⟩,⟨115,1,(aO (dg 4294967296 (k').natAbs)).map .t⟩] [.agg [tv (.bool (aI (k))),.sl 0 0 (dg 4294967296 (k).natAbs).length],.agg [tv (.bool (aI (k'))),.sl 1 0 (dg 4294967296 (k').natAbs).length],.agg [tv (.bool false),.t (sU false (dg 4294967296 p.den))]] (Rt [⟨115,1,(aO (dg 4294967296 (k).natAbs)).map .t⟩,⟨115,1,(aO (dg 4294967296 (k').natAbs)).map .t⟩] (.one (tv (.bool (sX k k' (p.den:Int)))))):=by
 refine Dp Tryz.func136 rfl Tryz.ntmps136 rfl aA rfl fun N9 M9 w9 c0 h0=>?_
 have hka:(dg 4294967296 (k'+k').natAbs).length≤137438953473:=by have:=gH k' k';omega
 have hs2:=hs.2
 have hkd:(dg 4294967296 (k'+k'-(p.den:Int)).natAbs).length≤300000000000:=by
  have h1:=vN (k'+k') (p.den:Int)
  rw[Int.natAbs_natCast]at h1;omega
 refine sq ?_;refine rl ?_;refine bx 2 ?_;refine bx 3 ?_;refine bx 4 ?_;refine o1 ?_;refine nl ?_;refine sq ?_;refine rd [2,3,4] (fun i=>[5].contains i) mixed ?_
 refine aX 0 ?_;refine aX 1 ?_;refine aX 3 ?_
 refine aJ 2 rfl (Cf (Zg.of (k:=k') (Nat.le_trans hk2 (by omega))) (Zg.of (k:=k') (Nat.le_trans hk2 (by omega)))) Cg ⟨Ew rfl (.cons .t (.cons (.sl rfl rfl (Pp _) (aT _)) .nil)),Ew rfl (.cons .t (.cons (.sl rfl rfl (Pp _) (aT _)) .nil)),rfl⟩ (kF (k'+k')) ?_
 refine aJ 4 rfl (Ce (Zg.of (k:=(k'+k')) (Nat.le_trans hka (by omega))) (cR hs).g hkd) Ed ⟨aB rfl,aB rfl,rfl⟩ (.one (tv (.int .i64 ((k'+k')-(p.den:Int)).sign))) ?_
 refine dR 5 (by kernel_rfl) rfl rfl aA rfl (by trivial) ?_ (fun h=>by first | rfl | cases h)
 refine aS ?_;refine sq ?_;refine rl ?_;(iterate 3 refine o1 ?_);refine WL.split (t:=15) rfl (fun h1=>?_) (fun h1=>?_)
 ·(iterate 7 refine cL ?_);refine o1 ?_;refine o1 ?_;refine nl ?_;refine rt ?_
  exact kV (lent':=[⟨115,1,(aO (dg 4294967296 (k).natAbs)).map .t⟩,⟨115,1,(aO (dg 4294967296 (k').natAbs)).map .t⟩]) (.inl rfl) rfl (aR (aN _)) (by decide) (fun _ h=>by cases h) ⟨⟨rfl,rfl⟩,⟨rfl,rfl⟩,trivial⟩ ⟨rfl,rfl,trivial⟩ ⟨mC _,mC _,trivial⟩ (fun h=>by cases h) ⟨rfl,congrArg (fun b=>FV.one (tv (.bool b))) (NG h1)⟩
 (iterate 3 refine o1 ?_);refine WL.split (t:=18) rfl (fun h2=>?_) (fun h2=>?_)
 ·refine ld ?_;refine ca (EP (k:=k)) KB ⟨Ew rfl (.cons .t (.cons (.sl rfl rfl (Pp _) (aT _)) .nil)),rfl⟩ (.one (tv (.bool (decide (k%2=0))))) ?_;(iterate 4 refine o1 ?_)
  refine nl ?_;refine rt ?_
  exact kV (lent':=[⟨115,1,(aO (dg 4294967296 (k).natAbs)).map .t⟩,⟨115,1,(aO (dg 4294967296 (k').natAbs)).map .t⟩]) (.inl rfl) rfl (aR (aN _)) (by decide) (fun _ h=>by cases h) ⟨⟨rfl,rfl⟩,⟨rfl,rfl⟩,trivial⟩ ⟨rfl,rfl,trivial⟩ ⟨mC _,mC _,trivial⟩ (fun h=>by cases h) ⟨rfl,congrArg (fun b=>FV.one (tv (.bool b))) (NI h1 h2)⟩
 (iterate 3 refine cL ?_);(iterate 3 refine o1 ?_);refine nl ?_;refine rt ?_
 exact kV (lent':=[⟨115,1,(aO (dg 4294967296 (k).natAbs)).map .t⟩,⟨115,1,(aO (dg 4294967296 (k').natAbs)).map .t⟩]) (.inl rfl) rfl (aR (aN _)) (by decide) (fun _ h=>by cases h) ⟨⟨rfl,rfl⟩,⟨rfl,rfl⟩,trivial⟩ ⟨rfl,rfl,trivial⟩ ⟨mC _,mC _,trivial⟩ (fun h=>by cases h) ⟨rfl,congrArg (fun b=>FV.one (tv (.bool b))) (NH h1 h2)⟩
theorem KC {a:Fr4}{p:Rat}(ha:Qn a p):aD true Tryz.prog 135 [] [qF a,.one (.t (.f 136 [] []))] (aL (kO (hal p))):=by
 refine bE Tryz.func135 rfl Tryz.ntmps135 rfl aA rfl fun N9 w9 c0 h0=>?_
 have hfl:(dg 4294967296 ((p.num.fdiv (p.den:Int))).natAbs).length≤68719476736:=by rw[yY];exact Nat.le_trans (Pi p) ha.sz.1
 refine sq ?_;refine rl ?_;refine bx 0 ?_;refine al 1 ?_;refine nl ?_;refine sq ?_;refine rl ?_;refine ld ?_;refine fX 2 (Zw ha) KD ⟨aB rfl,rfl⟩ ?_;(iterate 4 refine o1 ?_)
 refine al 4 ?_;refine al 5 ?_;refine al 6 ?_;(iterate 3 refine st ?_);refine nl ?_;refine sq ?_;refine sq ?_;refine rl ?_;refine ld ?_
 refine ca (pQ (Zg.of (k:=(p.num.fmod (p.den:Int))) (Nat.le_trans (En p) (Nat.le_trans ha.sz.2 (by omega))))) zG ⟨Ew rfl (.cons .t (.cons (.sl rfl rfl (Pp _) (aT _)) .nil)),rfl⟩ (.one (tv (.int .i64 ((p.num.fmod (p.den:Int))).sign))) ?_
 refine o1 ?_;refine o1 ?_;refine WL.split (t:=17) rfl (fun h1=>?_) (fun h1=>?_)
 ·refine o1 ?_;(iterate 3 refine ld ?_)
  refine PX 7 [2,3] [.agg [tv (.bool (aI ((p.num.fdiv (p.den:Int))))),.sl 0 0 (dg 4294967296 ((p.num.fdiv (p.den:Int))).natAbs).length],.agg [tv (.bool (aI ((p.num.fmod (p.den:Int))))),.sl 1 0 (dg 4294967296 ((p.num.fmod (p.den:Int))).natAbs).length],.agg [tv (.bool false),.t (sU false (dg 4294967296 p.den))]] rfl (Zz (k:=(p.num.fdiv (p.den:Int))) (k':=(p.num.fmod (p.den:Int))) (p:=p) ha.sz (Nat.le_trans (En p) (Nat.le_trans ha.sz.2 (by omega)))) KE ⟨cX rfl,cX rfl,rfl⟩ ⟨rfl,rfl,rfl,rfl⟩ (ok:=[some ⟨115,1,(aO (dg 4294967296 ((p.num.fdiv (p.den:Int))).natAbs)).map .t⟩,some ⟨115,1,(aO (dg 4294967296 ((p.num.fmod (p.den:Int))).natAbs)).map .t⟩]) ⟨cX rfl,cX rfl,rfl⟩ ?_
  refine o1 ?_;refine nl ?_;refine jV rfl (fun h2=>?_) (fun h2=>?_)
  ·refine sq ?_;refine rd [0,1,4,5,6] (fun i=>[2,3].contains i) mixed ?_
   refine aX 0 ?_;refine aJ 1 rfl (vL (n:=1) (by omega) (by omega)) vM ⟨a1 rfl,rfl⟩ (kF 1) ?_
   refine oL 7 2 rfl (Cf (Zg.of (k:=(p.num.fdiv (p.den:Int))) (Nat.le_trans hfl (by omega))) (Zg.of (k:=1) (by decide))) Cg ⟨Ew rfl (.cons .t (.cons (.sl rfl rfl (Pp _) (aT _)) .nil)),aB rfl,rfl⟩ ?_
   refine dst 3 ?_;refine aS ?_;refine rt ?_
   exact en (.inl rfl) rfl (aR (.agg (.cons (.id rfl) (.cons (.sl (trs:=aO (dg 4294967296 ((p.num.fdiv (p.den:Int))+1).natAbs)) rfl rfl (bJ _) (aT _)) .nil)))) (by decide) (fun _=>xH _) (congrArg kO (EQ h2).symm)
  refine sk ?_;refine sq ?_;refine rl ?_;refine ld ?_;refine st ?_;refine nl ?_;refine rt ?_
  exact en (.inl rfl) rfl (aR (.agg (.cons (.id rfl) (.cons (.sl (trs:=aO (dg 4294967296 ((p.num.fdiv (p.den:Int))).natAbs)) rfl rfl (bJ _) (aT _)) .nil)))) (by decide) (fun _=>xH _) (congrArg kO (ER h2).symm)
 (iterate 5 refine cL ?_);refine o1 ?_;refine nl ?_;refine fY rfl ?_;refine sk ?_;refine sq ?_;refine rl ?_;refine ld ?_;refine st ?_;refine nl ?_;refine rt ?_
 exact en (.inl rfl) rfl (aR (.agg (.cons (.id rfl) (.cons (.sl (trs:=aO (dg 4294967296 ((p.num.fdiv (p.den:Int))).natAbs)) rfl rfl (bJ _) (aT _)) .nil)))) (by decide) (fun _=>xH _) (congrArg kO (Tw (Int.sign_eq_zero_iff_zero.1 (Decidable.byContradiction h1))).symm)
theorem ES {a:Fr4}{p:Rat}(ha:Qn a p):aD true Tryz.prog 84 [] [qF a] (aL (kO (hal p))):=by
 refine bE Tryz.func84 rfl Tryz.ntmps84 rfl aA rfl fun N9 w9 c0 h0=>?_
 refine sq ?_;refine rl ?_;refine bx 0 ?_;refine al 1 ?_;refine nl ?_;refine sq ?_;refine rl ?_;refine ld ?_;refine fX 2 (KC ha) KF ⟨aB rfl,a1 rfl,rfl⟩ ?_
 refine st ?_;refine nl ?_;refine rt ?_
 exact en (.inl rfl) rfl (aR (.agg (.cons (.id rfl) (.cons (.sl (trs:=aO (dg 4294967296 (hal p).natAbs)) rfl rfl (bJ _) (aT _)) .nil)))) (by decide) (fun _=>xH _) rfl
theorem rz {A:List Tr}{us:List Value}{k:Nat}:(A++(us.map Tr.v).drop k).map AV.t=A.map .t++(us.map tv).drop k:=by
 rw[List.map_append,List.map_drop,List.map_map]
 rfl
theorem rA (q:Rat) (n:Nat):(((List.replicate n q).flatMap eW).map AV.t).length=n*4:=by
 rw[List.length_map,nN nC,List.length_replicate]
theorem ET (q:Rat) (n:Nat):(((List.replicate n q).flatMap eW).map AV.t).length=n*4:=rA q n
theorem NJ (q:Rat) (us:List Value) (c:Nat):cM (us.map tv) 0 (((eW q).map AV.t).take (min 1 c*4))=((List.replicate (min 1 c) q).flatMap eW++(us.map Tr.v).drop ((min 1 c)*4)).map AV.t:=by
 rw[rz]
 rcases Nat.eq_zero_or_pos c with h | h
 ·subst h
  simp[cM]
 rw[Nat.min_eq_left h]
 have e:((eW q).map AV.t).take (1*4)=(eW q).map AV.t:=List.take_of_length_le (by rw[List.length_map,nC];omega)
 rw[e]
 unfold cM
 simp[nC]
theorem Wy (q:Rat) (us:List Value) (n:Nat):((((List.replicate n q).flatMap eW++(us.map Tr.v).drop (n*4)).map AV.t).drop 0).take (n*4)=((List.replicate n q).flatMap eW).map AV.t:=by
 rw[rz]
 rw[List.drop_zero,List.take_append_of_le_length (by rw[rA];omega),List.take_of_length_le (by rw[rA];omega)]
theorem KG (q:Rat) (us:List Value) (n c:Nat) (h:us.length=c*4) (hn:n≤c):0+n*4+min n (c-n)*4≤(((List.replicate n q).flatMap eW++(us.map Tr.v).drop (n*4)).map AV.t).length:=by
 rw[rz]
 rw[List.length_append,rA,List.length_drop,List.length_map,h]
 omega
theorem NK (q:Rat) (us:List Value) (n c:Nat) (h:us.length=c*4) (hn:n≤c):cM (((List.replicate n q).flatMap eW++(us.map Tr.v).drop (n*4)).map AV.t) (0+n*4) ((((List.replicate n q).flatMap eW).map AV.t).take (min n (c-n)*4))=((List.replicate (n+min n (c-n)) q).flatMap eW++(us.map Tr.v).drop ((n+min n (c-n))*4)).map AV.t:=by
 rw[rz,rz]
 have e:(((List.replicate n q).flatMap eW).map AV.t).take (min n (c-n)*4)=((List.replicate (min n (c-n)) q).flatMap eW).map AV.t:=by
  rw[←List.map_take]
  congr 1
  have h1:List.replicate n q=List.replicate (min n (c-n)) q++List.replicate (n-min n (c-n)) q:=by
   rw[List.replicate_append_replicate]
   congr 1
   omega
  rw[h1,List.flatMap_append,List.take_append_of_le_length (by rw[nN nC,List.length_replicate];omega),List.take_of_length_le (by rw[nN nC,List.length_replicate];omega)]
 rw[e]
 unfold cM
 rw[Nat.zero_add,List.take_append_of_le_length (by rw[rA];omega),List.take_of_length_le (by rw[rA];omega),rA]
 rw[List.drop_append,rA,List.drop_of_length_le (by rw[rA];omega),List.nil_append,List.drop_drop,←List.map_append,←List.flatMap_append,List.replicate_append_replicate]
 congr 2
 omega
theorem EU (q:Rat) (us:List Value) (n c:Nat) (hn:n=c):((((List.replicate n q).flatMap eW++(us.map Tr.v).drop (n*4)).map AV.t).drop 0).take (c*4)=((List.replicate c q).flatMap eW).map .t:=by
 subst hn
 exact Wy q us n
theorem AA (q:Rat) (c:Nat):((List.replicate c q).flatMap eW).length=c*4:=by
 rw[nN nC,List.length_replicate]
theorem AB {l m:List AV}(h:dZ l=true) (h2:dZ m=true):dZ (l++m)=true:=by
 induction l with
 | nil=>exact h2
 | cons a l ih=>
  rw[List.cons_append]
  simp only[dZ,Bool.and_eq_true]at h⊢
  exact⟨h.1,ih h.2⟩
theorem Wz (q:Rat):∀n:Nat,dZ (((List.replicate n q).flatMap eW).map AV.t)=true
 | 0=>rfl
 | n+1=>by
  rw[List.replicate_succ,List.flatMap_cons,List.map_append]
  exact AB rfl (Wz q n)
theorem Tx {l m:List AV}(h:cF l=true) (h2:cF m=true):cF (l++m)=true:=by
 induction l with
 | nil=>exact h2
 | cons a l ih=>
  rw[List.cons_append]
  simp only[cF,Bool.and_eq_true]at h⊢
  exact⟨h.1,ih h.2⟩
theorem Pq (q:Rat):∀n:Nat,cF (((List.replicate n q).flatMap eW).map AV.t)=true
 | 0=>rfl
 | n+1=>by
  rw[List.replicate_succ,List.flatMap_cons,List.map_append]
  exact Tx rfl (Pq q n)
theorem Ty {q:Rat}{c:Nat}(hc:c≤1000):aD false Tryz.prog 83 [] [.one (.t (sQ false (pT [q]))),.one (tv (.int .i64 ((c:Nat):Int)))] (aL (.one (.t (.s true 27 4 c ((List.replicate (c) q).flatMap eW))))):=by
 refine bE Tryz.func83 rfl Tryz.ntmps83 rfl aA rfl fun N9 w9 c0 h0=>?_
 refine sq ?_;refine rl ?_;refine o1 ?_;refine nl ?_;refine sq ?_;refine sq ?_;refine rl ?_;refine o1 ?_;refine o1 ?_;refine nl ?_;refine bQ rfl (fun h1=>?_) (fun h1=>?_)
 ·exact absurd h1 (by omega)
 refine sk ?_;refine sq ?_;refine rl ?_;refine o1 ?_;refine o1 ?_;refine WL.cast (t:=14) (u':=.int .i64 ((1:Nat):Int)) rfl rfl ?_;refine o1 ?_
 refine WL.cast (t:=15) (u':=.int .u64 ((1:Nat):Int)) rfl (aH (by omega)) ?_
 refine o1 ?_;refine o1 ?_;refine WL.cast (t:=17) (u':=.int .u64 ((c:Nat):Int)) rfl (aH (by omega)) ?_
 refine ca (DP (a:=1) (b:=c) (by omega) (by omega)) NL ⟨a1 rfl,a1 rfl,rfl⟩ (.tup [.one (tv (.int .u64 ((1*c/18446744073709551616:Nat):Int))),.one (tv (.int .u64 ((1*c%18446744073709551616:Nat):Int)))]) ?_
 (iterate 5 refine o1 ?_);refine nl ?_;refine sq ?_;refine sq ?_;refine rl ?_;(iterate 3 refine o1 ?_);refine WL.split (t:=23) rfl (fun h2=>?_) (fun h2=>?_)
 ·exact absurd h2 (by omega)
 (iterate 3 refine o1 ?_);refine nl ?_;refine bQ rfl (fun h3=>?_) (fun h3=>?_)
 ·exact absurd h3 (by omega)
 refine sk ?_;refine sq ?_;refine rl ?_;refine o1 ?_;refine o1 ?_;refine WL.cast (t:=29) (u':=.int .i64 ((c:Nat):Int)) rfl (aH (by omega)) ?_
 refine PY (m:=c) 0 (by omega) fun us hus=>?_
 refine o1 ?_;refine nl ?_;refine sq ?_;refine rl ?_;refine o1 ?_;refine o1 ?_
 refine PZ (k:=0) (o:=0) (z:=4) (bo:=⟨27,4,us.map tv⟩) (nn:=min 1 c) (l':=(((List.replicate (min 1 c) q).flatMap eW++(us.map Tr.v).drop ((min 1 c)*4)).map AV.t)) (SrcA.fz (m:=1) (l:=eW q)) (by rfl) (by rfl) rfl (by rw[List.length_map,hus];omega) (NJ q us c) ?_
 refine o1 ?_;refine nl ?_;refine sq ?_;refine bl ?_
 refine lp (γ:=Nat) (fun n=>cK [(7,.one (.sl 0 0 c)),(8,.one (tv (.int .i64 ((n:Nat):Int))))]) (fun n=>[(⟨27,4,(((List.replicate (n) q).flatMap eW++(us.map Tr.v).drop ((n)*4)).map AV.t)⟩:Ob)].map some) (fun n=>n≤c∧(0<n∨c=0)) (fun n=>c-n) (min 1 c) ⟨by omega,by omega⟩ (aQ h0 [0] _ _ (by decide) ⟨rfl,rfl,trivial⟩ ⟨cX rfl,rfl⟩) fun n hn=>?_
 refine sq ?_;refine sq ?_;refine rl ?_;(iterate 4 refine o1 ?_);refine nl ?_;refine bQ rfl (fun h4=>?_) (fun h4=>?_)
 ·refine sk ?_;refine bl ?_;refine rd [] (fun i=>[9].contains i) mixed ?_
  refine dv 0 ?_;refine dv 1 ?_;refine dv 2 ?_;refine dv 3 ?_;refine dv 4 ?_;refine dv 5 ?_;refine dv 6 ?_
  refine NF 7 (o:=0+n*4) (z:=4) (bo:=⟨27,4,(((List.replicate (n) q).flatMap eW++(us.map Tr.v).drop ((n)*4)).map AV.t)⟩) (nn:=min n (c-n)) (l':=(((List.replicate (n+min n (c-n)) q).flatMap eW++(us.map Tr.v).drop ((n+min n (c-n))*4)).map AV.t)) (SrcA.sl (k:=0) (o:=0) (m:=n) (news:=(((List.replicate (n) q).flatMap eW).map AV.t)) rfl (Wy q us n) (ET q n)) (Wz q n) (Pq q n) rfl (KG q us n c hus (by omega)) (NK q us n c hus (by omega)) ?_
  refine df 8 ?_;refine WD.cast (t:=46) (u':=.int .i64 ((n+min n (c-n):Nat):Int)) rfl (aH (by omega)) ?_
  refine dR 9 (by kernel_rfl) rfl rfl aA rfl (by trivial) ?_ (fun h=>by first | rfl | cases h)
  refine aS ?_;exact⟨n+min n (c-n),by omega,⟨by omega,by omega⟩,aQ h0 [0] _ _ (by decide) ⟨rfl,rfl,trivial⟩ ⟨cX rfl,rfl⟩⟩
 refine ex ?_;refine sq ?_;refine rl ?_;refine o1 ?_;refine o1 ?_;refine nl ?_;refine rt ?_;have hn9:n=c:=by omega
 exact en (.inl rfl) rfl (aR (.one (.sl (trs:=(List.replicate (c) q).flatMap eW) rfl rfl (EU q us n c hn9) (AA q c)))) (by decide) (fun h=>by cases h) (by rfl)
section
variable {α:Type}
def pW (dl:α→Bool):List α→Nat
 | []=>0
 | x::l=>if dl x then 0 else pW dl l+1
theorem Ex {dl:α→Bool}:∀(l:List α),pW dl l≤l.length
 | []=>Nat.le_refl _
 | x::l=>by
  have:=Ex (dl:=dl) l
  unfold pW
  split <;> simp <;> omega
theorem vR {dl:α→Bool}{d:α}:∀{l:List α}{k:Nat},k≤pW dl l→k<l.length→(dl (l.getD k d)=true→pW dl l=k)∧(dl (l.getD k d)=false→k+1≤pW dl l)
 | [],_,_,h=>by simp at h
 | x::l,0,_,_=>by
  have e:(x::l).getD 0 d=x:=rfl
  rw[e]
  unfold pW
  exact⟨fun h=>by simp[h],fun h=>by simp[h]⟩
 | x::l,k+1,h,h2=>by
  have e:(x::l).getD (k+1) d=l.getD k d:=by simp
  rw[e]
  unfold pW at h⊢
  by_cases hx:dl x=true
  ·simp[hx]at h
  simp only[if_neg hx]at h⊢
  have:=vR (dl:=dl) (d:=d) (l:=l) (k:=k) (by omega) (by simpa using h2)
  exact⟨fun h=>by rw[this.1 h],fun h=>by have:=this.2 h;omega⟩
theorem Je {dl:α→Bool}:∀(l:List α),l.any dl=decide (pW dl l<l.length)
 | []=>rfl
 | x::l=>by
  unfold pW
  by_cases hx:dl x=true
  ·simp[hx]
  simp only[if_neg hx,List.any_cons,Je l,List.length_cons]
  simp[hx]
def Jf (dl:α→Bool) (l:List α):Int:=if pW dl l=l.length then-1 else(pW dl l:Int)
theorem AC {dl:α→Bool}(l:List α):decide (0≤Jf dl l)=l.any dl:=by
 have h:=Ex (dl:=dl) l
 rw[Je]
 unfold Jf
 split
 ·rw[decide_eq_decide];omega
 rw[decide_eq_decide];omega
end
section
variable {lt:Nat→Nat→Bool}{A B C D:List Nat}{x y j:Nat}
def Rw9 (D A:List Nat) (x:Nat) (B C:List Nat):Prop:=D=A.reverse++x::(B++C)
theorem Rw9.at (h:Rw9 D A x B C):nth D A.length=x:=by
 subst h
 simp[nth,List.getD_eq_getElem?_getD]
theorem Rw9.len (h:Rw9 D A x B C):A.length<D.length:=by
 subst h
 simp
end
theorem EV {xs:List Fr4}{dl:Fr4→Bool}{fd:FuncId}{fst caps:List Tr}(hok:CallOk Tryz.prog fd) (hd:∀x∈xs,aD true Tryz.prog fd [] (dX fst++[.agg ((Fr4.tr false x).map .t)]++dX caps) (aL (.one (tv (.bool (dl x)))))) (hl:xs.length≤1073741823):aD true Tryz.prog 155 [] [.one (.t (sQ false xs)),.one (.t (.f fd fst caps))] (aL (.one (tv (.int .i64 (Jf dl xs))))):=by
 refine bE Tryz.func155 rfl Tryz.ntmps155 rfl aA rfl fun N w c0 h0=>?_
 refine sq ?_;refine rl ?_;refine o1 ?_;refine nl ?_;refine sq ?_;refine sq ?_;refine rl ?_;(iterate 3 refine o1 ?_);refine nl ?_;refine bl ?_
 refine lp (γ:=Nat) (fun k=>cK [(0,.one (.t (sQ false xs))),(1,.one (.t (.f fd fst caps))),(7,.one (tv (.int .i64 ((xs.length:Nat):Int)))),(8,.one (tv (.int .i64 ((k:Nat):Int))))]) (fun k=>[].map some) (fun k=>k≤xs.length∧k≤pW dl xs) (fun k=>xs.length-k) 0 (⟨Nat.zero_le _,Nat.zero_le _⟩) (aQ h0 [] _ _ (by decide) ⟨rfl,rfl,rfl,rfl,trivial⟩ rfl) fun k hk=>?_
 refine sq ?_;refine rl ?_;refine o1 ?_;refine nl ?_;refine sq ?_;refine bQ rfl (fun h1=>?_) (fun h1=>?_)
 ·refine sk ?_;refine sq ?_;refine bl ?_;refine sq ?_;refine rl ?_;refine o1 ?_;refine o1 ?_;refine nl ?_;refine sq ?_;refine rl ?_;(iterate 4 refine o1 ?_)
  refine kW ((Fr4.tr false) (jC xs (k))) (Oj (f:=(Fr4.tr false)) (z:=4) (o:=0) (fun _=>rfl) (qT (by omega)) (Nat.le_of_ble_eq_true rfl) rfl) ?_
  refine ce 0 [.agg ((Fr4.tr false (jC xs (k))).map .t)] rfl (hd (jC xs (k)) (lE (by omega))) hok ⟨rfl,rfl⟩ ?_
  refine nl ?_;refine jV rfl (fun h2=>?_) (fun h2=>?_)
  ·refine sq ?_;refine rl ?_;refine o1 ?_;refine o1 ?_;refine nl ?_;refine rt ?_;have hx9:=(vR hk.2 (by omega)).1 h2
   exact en (.inl rfl) rfl (aR (aN _)) (by decide) (fun _=>trivial) (congrArg (fun z=>FV.one (tv (.int .i64 z))) (by unfold Jf;rw[hx9,if_neg (by omega)]))
  refine sk ?_;refine rl ?_;refine o1 ?_;refine WL.cast (t:=18) (u':=.int .i64 ((k+1:Nat):Int)) rfl (aH (by omega)) ?_
  refine o1 ?_;refine nl ?_;exact⟨k+1,by omega,⟨by omega,(vR hk.2 (by omega)).2 h2⟩,aQ h0 [] _ _ (by decide) ⟨rfl,rfl,rfl,rfl,trivial⟩ rfl⟩
 refine ex ?_;refine sq ?_;refine rl ?_;refine o1 ?_;refine nl ?_;refine rt ?_;have hx9:=Ex (dl:=dl) xs
 exact en (.inl rfl) rfl (aR (aN _)) (by decide) (fun _=>trivial) (congrArg (fun z=>FV.one (tv (.int .i64 z))) (by unfold Jf;rw[if_pos (by omega)]))
theorem EW {xs:List Fr4}{dl:Fr4→Bool}{fd:FuncId}{fst caps:List Tr}(hok:CallOk Tryz.prog fd) (hd:∀x∈xs,aD true Tryz.prog fd [] (dX fst++[.agg ((Fr4.tr false x).map .t)]++dX caps) (aL (.one (tv (.bool (dl x)))))) (hl:xs.length≤1073741823):aD true Tryz.prog 107 [] [.one (.t (sQ false xs)),.one (.t (.f fd fst caps))] (aL (.one (tv (.bool (xs.any dl))))):=by
 refine bE Tryz.func107 rfl Tryz.ntmps107 rfl aA rfl fun N w c0 h0=>?_
 refine sq ?_;refine rl ?_;refine o1 ?_;refine nl ?_;refine sq ?_;refine rl ?_;refine o1 ?_;refine o1 ?_
 refine ca (EV hok hd hl) KH ⟨a1 rfl,a1 rfl,rfl⟩ (.one (tv (.int .i64 (Jf dl xs)))) ?_;refine o1 ?_;refine o1 ?_;refine nl ?_;refine rt ?_
 exact en (.inl rfl) rfl (aR (aN _)) (by decide) (fun _=>trivial) (congrArg (fun z=>FV.one (tv (.bool z))) (AC xs))
section
variable {x:Cx}{g:Nat→FV}{ob:List (Option Ob)}{Q:Post}
theorem QA {i t t' z n:Nat}{o:Bool}{l l':List Tr}(hi:Nat.blt i x.n=true) (h:g i=.one (.t (.s o t z n l))) (hr:rdTL l=l'):Sub x g ob (aU g i (.one (.t (.s false t' z n l')))) ob:=EX hi fun W N cs u hu=>by
 subst hr
 rw[h]at hu
 simp only[bB,bL,AR]at hu⊢
 have h2:=Ey _ _ hu
 simp only[uW,FR]at h2⊢
 exact h2
end
section
variable {l:List Rat}{f:Rat→Rat}{k:Nat}
end
section
variable {l:List Rat}{k:Nat}{f:Int→Int}{z:List Int}
end
section
variable {x:Cx}{g:Nat→FV}{ob:List (Option Ob)}
end
section
variable {l:List Rat}{k i t:Nat}
end
section
variable {x:Cx}{g:Nat→FV}{ob ob':List (Option Ob)}{Q:Post}{ops:Array Oper}{rest:List Oper}{d:Nat}{ty:TypeId}{pos:String}{af:Array Edge}{gd:Option (Nat×Bool)}{T:List (Nat×TI)}
end
section
variable {x:Cx}{g:Nat→FV}{ob:List (Option Ob)}{ws:List Zi}{z:Zi}{l:List Rat}{i k n t:Nat}
end
section
variable {l:List Rat}{i t:Nat}
end
def iE (l:List Rat):Rat:=l.foldl (· * ·) 1
theorem xL (l:List Rat) (q:Rat):iE (l++[q])=iE l*q:=by simp[iE]
theorem Aw (q:Rat):∀n:Nat,iE (List.replicate n q)=q^n
 | 0=>by rw[Rat.pow_zero];rfl
 | n+1=>by rw[List.replicate_succ',xL,Aw q n,Rat.pow_succ]
theorem AD (n:Nat):(((10:Int):Rat))^n=((10^n:Nat):Rat):=by
 induction n with
 | zero=>rw[Rat.pow_zero];rfl
 | succ n ih=>rw[Rat.pow_succ,ih,Nat.pow_succ,Rat.natCast_mul];rfl
theorem gQ (n:Nat):Sz (n+1) ((10^n:Nat):Rat):=by
 refine⟨?_,?_⟩
 ·rw[Rat.num_natCast,Int.natAbs_natCast]
  exact yZ n
 rw[Rat.den_natCast]
 exact Nat.le_trans (show(dg 4294967296 1).length≤1 by decide) (by omega)
theorem Pr {xs:List Fr4}{B:Nat}(hB:2+xs.length*B≤34359738368) (hx:∀x∈xs,x.ok) (hz:∀x∈xs,Sz B x.q) (hl:xs.length≤1073741823):aD false Tryz.prog 85 [] [.one (.t (sQ false xs))] (aL (qF (.of (iE (xs.map Fr4.q))))):=by
 refine bE Tryz.func85 rfl Tryz.ntmps85 rfl aA rfl fun N9 w9 c0 h0=>?_
 have h00:((1:Int):Rat)=iE ((xs.take 0).map Fr4.q):=by simp[iE]
 refine sq ?_;refine rl ?_;refine al 0 ?_;refine nl ?_;refine sq ?_;refine rl ?_;refine ca (dU (z:=1) (by omega) (by omega)) jD ⟨a1 rfl,rfl⟩ (qF (.of ((1:Int):Rat))) ?_
 refine al 1 ?_;refine st ?_;refine nl ?_;refine sq ?_;refine sq ?_;refine rl ?_;(iterate 3 refine o1 ?_);refine nl ?_;refine bl ?_
 refine lp (γ:=Nat) (fun k=>cK [(2,.one (.pt 0 0)),(3,.one (.pt 1 0)),(7,.one (.t (sQ false xs))),(8,.one (tv (.int .i64 ((xs.length:Nat):Int)))),(9,.one (tv (.int .i64 ((k:Nat):Int))))]) (fun k=>[(⟨27,0,[tv (.bool false),tv (.slice none 0 0),tv (.bool false),tv (.slice none 0 0)]⟩:Ob),⟨27,0,((Fr4.of (iE ((xs.take (k)).map Fr4.q))).tr false).map .t⟩].map some) (fun k=>k≤xs.length∧Sz (2+k*B) (iE ((xs.take (k)).map Fr4.q))) (fun k=>xs.length-k) 0 ⟨Nat.zero_le _,by simpa[iE]using cS (z:=1) (by omega) (by omega)⟩ (aQ h0 [0,1] _ _ (by decide) ⟨rfl,rfl,rfl,rfl,rfl,trivial⟩ ⟨oe rfl rfl,cX (congrArg (fun q=>some (⟨27,0,((Fr4.of q).tr false).map .t⟩:Ob)) h00),rfl⟩) fun k hk=>?_
 have hmul:k*B≤xs.length*B:=Nat.mul_le_mul hk.1 (Nat.le_refl _)
 refine sq ?_;refine rl ?_;refine o1 ?_;refine nl ?_;refine sq ?_;refine bQ rfl (fun h1=>?_) (fun h1=>?_)
 ·refine sk ?_;refine sq ?_;refine bl ?_;refine sq ?_;refine rl ?_;refine o1 ?_;refine kW ((jC xs (k)).tr false) (On xs (k:=k) (by omega)) ?_
  refine al 2 ?_;refine st ?_;refine nl ?_;refine rl ?_;refine ld ?_;refine ld ?_
  refine ca (Ck (Qn.of (p:=(iE ((xs.take (k)).map Fr4.q))) (hk.2.mono (M:=68719476736) (by omega))) ⟨hx _ (lE (by omega)),rfl⟩) Mi ⟨aB rfl,aB rfl,rfl⟩ (qF (.of ((iE ((xs.take (k)).map Fr4.q))*(jC xs (k)).q))) ?_
  refine st ?_;refine nl ?_;refine rl ?_;refine o1 ?_;refine WL.cast (t:=16) (u':=.int .i64 ((k+1:Nat):Int)) rfl (aH (by omega)) ?_
  refine o1 ?_;refine nl ?_;have hst:(iE ((xs.take (k+1)).map Fr4.q))=(iE ((xs.take (k)).map Fr4.q))*(jC xs (k)).q:=by rw[Oo (by omega)];exact xL _ _
  have hmul3:(k+1)*B=k*B+B:=Nat.succ_mul k B
  exact⟨k+1,by omega,⟨by omega,by rw[hst];exact(nR hk.2 (hz _ (lE (by omega)))).mono (by omega)⟩,aQ h0 [0,1] _ _ (by decide) ⟨rfl,rfl,rfl,rfl,rfl,trivial⟩ ⟨oe rfl rfl,cX (congrArg (fun q=>some (⟨27,0,((Fr4.of q).tr false).map .t⟩:Ob)) hst.symm),rfl⟩⟩
 refine ex ?_;refine sq ?_;refine rl ?_;refine ld ?_;refine st ?_;refine nl ?_;refine rt ?_
 exact en (.inl rfl) rfl (aR (.agg (.cons (.id rfl) (.cons (.id rfl) (.cons (.id rfl) (.cons (.id rfl) .nil)))))) (by decide) (fun h=>by cases h) (by rw[List.take_of_length_le (by omega)];rfl)
theorem EY {l:List Rat}{n:Nat}(hn:l.length=n):sQ false (pT l)=.s false 33 4 n (l.flatMap eW):=by
 unfold sQ
 rw[Ja,hn,Zy]
theorem EZ {c:Nat}(hc:c≤40):aD false Tryz.prog 85 [] [.one (.t (.s false 33 4 c ((List.replicate c ((10:Int):Rat)).flatMap eW)))] (aL (qF (.of ((10^c:Nat):Rat)))):=by
 have hz:∀q∈List.replicate c ((10:Int):Rat),Sz 2 q:=fun q hq=>by rw[List.eq_of_mem_replicate hq];exact cS (by omega) (by omega)
 have hl:(pT (List.replicate c ((10:Int):Rat))).length=c:=by rw[Ja,List.length_replicate]
 have h:=Pr (xs:=pT (List.replicate c ((10:Int):Rat))) (B:=2) (by rw[hl];omega) (EN hz (by omega)) (EO hz) (by rw[hl];omega)
 rwa[JV,EY (List.length_replicate ..),Aw,AD]at h
theorem Xa:∀l:List Rat,rdTL (l.flatMap eW)=l.flatMap eW
 | []=>rfl
 | q::l=>by
  rw[List.flatMap_cons]
  have h:=Xa l
  have u32:∀xs:List Nat,rdTL (aO xs)=aO xs:=by
   intro xs
   induction xs with
   | nil=>rfl
   | cons x xs ih=>simpa[aO,rdTL,uW]using ih
  show rdTL (_::_::_::_::l.flatMap eW)=_
  simp only[rdTL,h,sU,uW,u32]
  rfl
theorem Tz {a:Fr4}{p:Rat}{c:Nat}(ha:Qn a p) (hs:Sz 1000000 p) (hc:c≤40):aD false Tryz.prog 40 [] [qF a,.one (tv (.int .i64 ((c:Nat):Int)))] (aL (.tup [kF (hal (p*((10^c:Nat):Rat))),.one (tv (.int .i64 0))])):=by
 refine bE Tryz.func40 rfl Tryz.ntmps40 rfl aA rfl fun N9 w9 c0 h0=>?_
 refine sq ?_;refine rl ?_;refine bx 0 ?_;refine al 1 ?_;refine o1 ?_;refine nl ?_;refine sq ?_;refine bl ?_;refine sq ?_;refine rl ?_;(iterate 3 refine o1 ?_);refine nl ?_
 refine bQ rfl (fun h1=>?_) (fun h1=>?_)
 ·exact absurd h1 (by omega)
 refine sq ?_;refine rl ?_;(iterate 3 refine o1 ?_);refine nl ?_;refine bQ rfl (fun h2=>?_) (fun h2=>?_)
 ·exact absurd h2 (by omega)
 refine sk ?_;refine sq ?_;refine rl ?_;refine ca (dU (z:=10) (by omega) (by omega)) jD ⟨a1 rfl,rfl⟩ (qF (.of ((10:Int):Rat))) ?_
 refine bs 2 ?_;refine WL.sub (ML (i:=16) (k:=2) (t:=27) (z:=4) (n:=1) (l:=(pT [((10:Int):Rat)]).flatMap (Fr4.tr false)) 33 rfl rfl rfl rfl (.one .sl)) ?_;refine o1 ?_
 refine ca (Ty (q:=((10:Int):Rat)) (c:=c) (by omega)) NM ⟨a1 rfl,a1 rfl,rfl⟩ (.one (.t (.s false 27 4 c ((List.replicate c ((10:Int):Rat)).flatMap eW)))) ?_
 refine WL.sub (QA (i:=18) (t':=33) rfl rfl (Xa _)) ?_;refine o1 ?_;refine nl ?_;refine sq ?_;refine rd [0,1] (fun i=>[5,6].contains i) mixed ?_
 refine aX 0 ?_;refine dv 1 ?_;refine aJ 2 rfl (EZ (c:=c) hc) NO ⟨a1 rfl,rfl⟩ (qF (.of ((10^c:Nat):Rat))) ?_
 refine aJ 3 rfl (Ck ha (Qn.of (p:=((10^c:Nat):Rat)) ((gQ c).mono (M:=68719476736) (by omega)))) Mi ⟨aB rfl,aB rfl,rfl⟩ (qF (.of (p*((10^c:Nat):Rat)))) ?_
 refine aJ 4 rfl (ES (Qn.of (p:=(p*((10^c:Nat):Rat))) ((nR hs (gQ c)).mono (M:=68719476736) (by omega)))) NP ⟨aB rfl,rfl⟩ (kF (hal (p*((10^c:Nat):Rat)))) ?_
 refine dst 5 ?_;refine dR 6 (by kernel_rfl) rfl rfl aA rfl (by trivial) ?_ (fun h=>by first | rfl | cases h)
 refine aS ?_;refine rt ?_;exact en (.inl rfl) rfl (cV (.cons (.agg (.cons (.id rfl) (.cons (.id rfl) .nil))) (.cons (aN _) .nil))) (by decide) (fun h=>by cases h) rfl
theorem xM {n:Int}:bP n≤40:=by unfold bP;omega
theorem Ps {v L:Nat}(h:(dg 4294967296 v).length≤L):(dg 10 v).length≤10*L:=by
 refine bO (by omega) ?_
 have h1:v<4294967296^L:=Nat.lt_of_lt_of_le (mT (B:=4294967296) (by omega)) (Nat.pow_le_pow_right (by omega) h)
 refine Nat.lt_of_lt_of_le h1 ?_
 rw[Nat.pow_mul]
 exact Nat.pow_le_pow_left (by omega) L
theorem zL {v L:Nat}(h:(dg 4294967296 v).length≤L):(tx v).length≤10*L+1:=by
 unfold tx
 split
 ·show 1≤_;omega
 rw[List.length_reverse,iA]
 have:=Ps h
 omega
theorem FA {a b:List Nat}{d:Nat}(h:(a++b).length=a.length+d):((a++b).take ((a++b).length-d)).drop 0=a:=by
 rw[List.drop_zero,h,Nat.add_sub_cancel]
 exact List.take_left
theorem FB {a b:List Nat}{d:Nat}(h:(a++b).length=a.length+d):(a++b).drop ((a++b).length-d)=b:=by
 rw[h,Nat.add_sub_cancel]
 exact List.drop_left
theorem NQ {n d:Nat}(h:d≠0):tx (n/10^d)++[46]++pd n d=wr n d:=by
 unfold wr
 rw[if_neg h,List.append_assoc]
 rfl
theorem NR {n d:Nat}(h:d=0):tx (n/10^d)++pd n d=wr n d:=by
 subst h
 rfl
theorem Pt {n d:Nat}:(wr n d).length=(tx (n/10^d)).length+(if d=0 then 0 else d+1):=by
 unfold wr
 rw[List.length_append]
 split
 ·rfl
 rw[List.length_cons,Dk]
theorem NS {z:Int}{d:Nat}(h:aI z=true):45::wr z.natAbs d=pt z d:=(if_pos (of_decide_eq_true h)).symm
theorem NT {z:Int}{d:Nat}(h:aI z=false):wr z.natAbs d=pt z d:=(if_neg (of_decide_eq_false h)).symm
theorem Jg {p:Rat}{c L:Nat}(hs:Sz L p) (hc:c≤40) (hL:L+100≤1000000):(dg 4294967296 (hal (p*((10^c:Nat):Rat))).natAbs).length≤1000000:=by
 have h1:=(nR hs (gQ c)).1
 have h2:(hal (p*((10^c:Nat):Rat))).natAbs≤(fl (p*((10^c:Nat):Rat))).natAbs+1:=by
  unfold hal
  rw[yY]
  split <;> omega
 have h3:=Pi (p*((10^c:Nat):Rat))
 generalize fl (p*((10^c:Nat):Rat))=f at h2 h3
 have h4:=gH (f.natAbs:Int) 1
 have h5:((f.natAbs:Int)+1).natAbs=f.natAbs+1:=by omega
 rw[h5,Int.natAbs_natCast]at h4
 have h6:(dg 4294967296 (1:Int).natAbs).length≤1:=by decide
 have h7:=dV h2
 omega
theorem Mj {a:Fr4}{p:Rat}{n:Int}{L:Nat}(ha:Qn a p) (hs:Sz L p) (hL:L+100≤1000000):aD true Tryz.prog 16 [] [qF a,.one (tv (.int .i64 n))] (aL (.one (tv (.string (aC (gV p (bP n))))))):=by
 refine bE Tryz.func16 rfl Tryz.ntmps16 rfl aA rfl fun N9 w9 c0 h0=>?_
 have hD:(bP n)≤40:=xM
 have hkl:(dg 4294967296 (hal (p*((10^(bP n):Nat):Rat))).natAbs).length≤1000000:=Jg hs hD hL
 have htl:(tx (hal (p*((10^(bP n):Nat):Rat))).natAbs).length≤10000001:=zL hkl
 have hpl:(pd (hal (p*((10^(bP n):Nat):Rat))).natAbs (bP n)).length=(bP n):=Dk _ _
 have htq:(tx ((hal (p*((10^(bP n):Nat):Rat))).natAbs/10^(bP n))).length≤10000001:=zL (Nat.le_trans (dV (Nat.div_le_self _ _)) hkl)
 have htq1:1≤(tx ((hal (p*((10^(bP n):Nat):Rat))).natAbs/10^(bP n))).length:=List.length_pos_iff.2 (Lq _)
 have hZl:((tx ((hal (p*((10^(bP n):Nat):Rat))).natAbs/10^(bP n)))++(pd (hal (p*((10^(bP n):Nat):Rat))).natAbs (bP n))).length=(tx ((hal (p*((10^(bP n):Nat):Rat))).natAbs/10^(bP n))).length+(bP n):=by rw[List.length_append,hpl]
 refine sq ?_;refine rl ?_;refine bx 0 ?_;refine o1 ?_;refine nl ?_;refine sq ?_;refine rl ?_;(iterate 3 refine o1 ?_)
 refine WL.cast (t:=10) (u':=.int .i64 (((bP n):Nat):Int)) rfl (aH (by unfold bP;omega)) ?_
 refine o1 ?_;refine nl ?_;refine sq ?_;refine rl ?_;refine ld ?_;refine o1 ?_
 refine ca (Tz (c:=(bP n)) ha (hs.mono (by omega)) xM) NU ⟨aB rfl,a1 rfl,rfl⟩ (.tup [kF (hal (p*((10^(bP n):Nat):Rat))),.one (tv (.int .i64 0))]) ?_
 (iterate 3 refine o1 ?_);refine al 1 ?_;refine st ?_;refine o1 ?_;refine nl ?_;refine sq ?_;refine rl ?_;refine o1 ?_;refine ld ?_
 refine ca (JH (xs:=(dg 4294967296 (hal (p*((10^(bP n):Nat):Rat))).natAbs)) (v:=(hal (p*((10^(bP n):Nat):Rat))).natAbs) hkl (aK (by omega) _) (bK (by omega) _)) NW ⟨a1 rfl,rfl⟩ (.one (tv (.string (aC (tx (hal (p*((10^(bP n):Nat):Rat))).natAbs))))) ?_
 refine o1 ?_;refine nl ?_;refine sq ?_;refine rl ?_;refine o1 ?_;refine o1 ?_;refine WL.cast (t:=21) (u':=.int .i64 (((bP n)+1:Nat):Int)) rfl (aH (by omega)) ?_
 refine o1 ?_;refine o1 ?_
 refine WL.cast (t:=23) (u':=.int .i64 (((tx (hal (p*((10^(bP n):Nat):Rat))).natAbs).length:Nat):Int)) rfl (congrArg (fun n:Nat=>Value.int .i64 (n:Int)) (aG _)) ?_
 refine o1 ?_;refine WL.cast (t:=24) (u':=.int .i64 (((((bP n)+1:Nat):Int)-(((tx (hal (p*((10^(bP n):Nat):Rat))).natAbs).length:Nat):Int)))) rfl (aH (by omega)) ?_
 refine o1 ?_;refine WL.cast (t:=25) (u':=.int .i64 ((((bP n)+1-(tx (hal (p*((10^(bP n):Nat):Rat))).natAbs).length):Nat):Int)) rfl (aH (by omega)) ?_
 refine ca (Oz (n:=(bP n)+1-(tx (hal (p*((10^(bP n):Nat):Rat))).natAbs).length) (by omega)) NX ⟨a1 rfl,a1 rfl,rfl⟩ (.one (tv (.string (aC (List.replicate ((bP n)+1-(tx (hal (p*((10^(bP n):Nat):Rat))).natAbs).length) 48))))) ?_
 refine o1 ?_;refine o1 ?_ (hC:=(by rw[aG,aG,List.length_replicate];omega))
 refine WL.cast (t:=28) (u':=.string (aC ((tx ((hal (p*((10^(bP n):Nat):Rat))).natAbs/10^(bP n)))++(pd (hal (p*((10^(bP n):Nat):Rat))).natAbs (bP n))))) rfl (congrArg Value.string ((nT _ _).trans (congrArg aC (Ot (bP n) (hal (p*((10^(bP n):Nat):Rat))).natAbs)))) ?_
 refine o1 ?_;refine nl ?_
 refine md (γ:=Unit) (fun _=>cK [(5,.one (.pt 0 0)),(7,.one (tv (.string (aC (wr (hal (p*((10^(bP n):Nat):Rat))).natAbs (bP n))))))]) (fun _=>([⟨25,0,[tv (.bool (aI ((hal (p*((10^(bP n):Nat):Rat)))))),.t (sU false (dg 4294967296 ((hal (p*((10^(bP n):Nat):Rat)))).natAbs))]⟩]:List Ob).map some) (fun _=>True) ?_ fun _ _=>?_
 ·refine sq ?_;refine rl ?_;refine o1 ?_;refine o1 ?_;refine nl ?_;refine bQ rfl (fun h1=>?_) (fun h1=>?_)
  ·refine rd [0,1] (fun i=>[14].contains i) mixed ?_
   refine dv 0 ?_;refine dv 1 ?_;refine dv 2 ?_
   refine WD.cast (t:=33) (u':=.int .i64 ((((tx ((hal (p*((10^(bP n):Nat):Rat))).natAbs/10^(bP n)))++(pd (hal (p*((10^(bP n):Nat):Rat))).natAbs (bP n))).length:Nat):Int)) rfl (congrArg (fun n:Nat=>Value.int .i64 (n:Int)) (aG _)) ?_
   refine dv 3 ?_;refine dv 4 ?_
   refine WD.cast (t:=35) (u':=.int .i64 ((((tx ((hal (p*((10^(bP n):Nat):Rat))).natAbs/10^(bP n)))++(pd (hal (p*((10^(bP n):Nat):Rat))).natAbs (bP n))).length-(bP n):Nat):Int)) rfl (aH (by omega)) ?_
   refine dv 5 ?_ (hC:=(by rw[aG];omega))
   refine WD.cast (t:=36) (u':=.string (aC (tx ((hal (p*((10^(bP n):Nat):Rat))).natAbs/10^(bP n))))) rfl (congrArg Value.string ((hG _ 0 _).trans (congrArg aC (FA hZl)))) ?_
   refine dv 6 ?_ (hC:=(by rw[aG];show _+1≤_;omega))
   refine WD.cast (t:=37) (u':=.string (aC ((tx ((hal (p*((10^(bP n):Nat):Rat))).natAbs/10^(bP n)))++[46]))) rfl (congrArg Value.string (nT _ [46])) ?_;refine dv 7 ?_
   refine dv 8 ?_;refine dv 9 ?_
   refine WD.cast (t:=40) (u':=.int .i64 ((((tx ((hal (p*((10^(bP n):Nat):Rat))).natAbs/10^(bP n)))++(pd (hal (p*((10^(bP n):Nat):Rat))).natAbs (bP n))).length:Nat):Int)) rfl (congrArg (fun n:Nat=>Value.int .i64 (n:Int)) (aG _)) ?_
   refine dv 10 ?_;refine dv 11 ?_
   refine WD.cast (t:=42) (u':=.int .i64 ((((tx ((hal (p*((10^(bP n):Nat):Rat))).natAbs/10^(bP n)))++(pd (hal (p*((10^(bP n):Nat):Rat))).natAbs (bP n))).length-(bP n):Nat):Int)) rfl (aH (by omega)) ?_
   refine dv 12 ?_ (hC:=(by rw[aG];omega))
   refine WD.cast (t:=43) (u':=.string (aC (pd (hal (p*((10^(bP n):Nat):Rat))).natAbs (bP n)))) rfl (congrArg Value.string ((hJ _ _).trans (congrArg aC (FB hZl)))) ?_
   refine dv 13 ?_ (hC:=(by rw[aG,aG,List.length_append];show _+1+_≤_;omega))
   refine WD.cast (t:=44) (u':=.string (aC (wr (hal (p*((10^(bP n):Nat):Rat))).natAbs (bP n)))) rfl (congrArg Value.string ((nT _ _).trans (congrArg aC (NQ (by omega))))) ?_
   refine dR 14 (by kernel_rfl) rfl rfl aA rfl (by trivial) ?_ (fun h=>by first | rfl | cases h)
   refine aS ?_;exact⟨(),trivial,aQ h0 [1] _ _ (by decide) ⟨rfl,rfl,trivial⟩ ⟨oe rfl rfl,rfl⟩⟩
  refine sk ?_
  exact⟨(),trivial,aQ h0 [1] _ _ (by decide) ⟨rfl,(congrArg (fun b=>some (FV.one (tv (.string (aC b))))) (NR (n:=(hal (p*((10^(bP n):Nat):Rat))).natAbs) (d:=(bP n)) (by omega)).symm),trivial⟩ ⟨oe rfl rfl,rfl⟩⟩
 refine sq ?_;refine sq ?_;refine rl ?_;refine o1 ?_;refine ld ?_;refine nl ?_;refine jV rfl (fun h2=>?_) (fun h2=>?_)
 ·refine rl ?_;refine o1 ?_;refine o1 ?_ (hC:=(by rw[aG];show 1+_≤_;rw[Pt];split <;> omega))
  refine WL.cast (t:=48) (u':=.string (aC (45::(wr (hal (p*((10^(bP n):Nat):Rat))).natAbs (bP n))))) rfl (congrArg Value.string (nT [45] _)) ?_;refine o1 ?_;refine nl ?_
  refine sq ?_;refine rl ?_;refine o1 ?_;refine o1 ?_;refine nl ?_;refine rt ?_
  exact en (.inl rfl) rfl (aR (aN _)) (by decide) (fun _=>trivial) (congrArg (fun z=>FV.one (tv (.string z))) (congrArg aC (NS h2)))
 refine sk ?_;refine sq ?_;refine rl ?_;refine o1 ?_;refine o1 ?_;refine nl ?_;refine rt ?_
 exact en (.inl rfl) rfl (aR (aN _)) (by decide) (fun _=>trivial) (congrArg (fun z=>FV.one (tv (.string z))) (congrArg aC (NT h2)))
theorem zM {a:Fr4}{p:Rat}{L:Nat}(ha:Qn a p) (hs:Sz L p) (hL:L+100≤1000000):aD true Tryz.prog 18 [] [qF a] (aL (.one (tv (.string (aC (gV p (bP 2))))))):=by
 refine bE Tryz.func18 rfl Tryz.ntmps18 rfl aA rfl fun N9 w9 c0 h0=>?_
 refine sq ?_;refine rl ?_;refine bx 0 ?_;refine o1 ?_;refine nl ?_;refine sq ?_;refine rl ?_;refine ld ?_
 refine ca (Mj (n:=2) ha hs hL) Ua ⟨aB rfl,a1 rfl,rfl⟩ (.one (tv (.string (aC (gV p (bP 2)))))) ?_;refine o1 ?_;refine nl ?_;refine rt ?_
 exact en (.inl rfl) rfl (aR (aN _)) (by decide) (fun _=>trivial) (congrArg (fun z=>FV.one (tv (.string z))) (rfl))
theorem Pu {xs:List Fr4}(hx:∀x∈xs,x.ok) (hl:xs.length≤1073741823):aD true Tryz.prog 55 [] [.one (.t (sQ false xs))] (aL (.one (tv (.bool (!(xs.any lS)))))):=by
 refine bE Tryz.func55 rfl Tryz.ntmps55 rfl aA rfl fun N9 w9 c0 h0=>?_
 refine sq ?_;refine rl ?_;refine o1 ?_;refine nl ?_;refine sq ?_;refine rl ?_;refine o1 ?_
 refine ca (EW (dl:=lS) (fst:=[]) (caps:=[]) KI (fun x h=>Mh ⟨hx x h,rfl⟩) hl) KJ ⟨a1 rfl,a1 rfl,rfl⟩ (.one (tv (.bool (xs.any lS)))) ?_
 refine o1 ?_;refine o1 ?_;refine nl ?_;refine rt ?_;exact mE (.inl rfl) rfl (rfl)
theorem Mk {p:Rat}(hp:Sz 68719476736 p):aD true Tryz.prog 55 [] [.one (.t (sQ false [Fr4.of p]))] (aL (.one (tv (.bool (decide (p.den=1)))))):=by
 have h:=Pu (xs:=[Fr4.of p]) (fun x hx=>by rw[List.mem_singleton]at hx;subst hx;exact(Qn.of hp).1) (by simp)
 have e:(!([Fr4.of p].any lS))=decide (p.den=1):=by
  rw[List.any_cons,List.any_nil,Bool.or_false,Ts p (sY p),Bool.not_not]
 rwa[e]at h
theorem FC {a:Fr4}{p:Rat}(ha:Qn a p) (hs9:Sz 68719476700 p):aD false Tryz.prog 54 [] [.one (.t (sQ false [a]))] (aL (qF (.of p))):=by
 have h:=JW (xs:=[a]) (B:=68719476700) (by show 2+1*_≤_;omega) (fun x hx=>by rw[List.mem_singleton]at hx;subst hx;exact ha.1) (fun x hx=>by rw[List.mem_singleton]at hx;subst hx;rw[ha.2];exact hs9) (by simp)
 rwa[show kD ([a].map Fr4.q)=p by rw[List.map_cons,List.map_nil,ha.2];simp[kD,Rat.zero_add]]at h
theorem Jh {p:Nat→Bool}{l:List Nat}:(kU p l).length≤l.length:=by
 unfold kU
 rw[List.length_reverse]
 exact Nat.le_trans (List.dropWhile_sublist _).length_le (by rw[List.length_reverse];exact Nat.le_refl _)
theorem Pv (n d:Nat):Lim 256 (wr n d):=by
 unfold wr
 refine(FD _).append ?_
 split
 ·exact Lim.nil
 exact Lim.cons (by omega) (fun c hc=>by have:=DH _ _ c hc;omega)
theorem FE (z:Int) (d:Nat):Lim 256 (pt z d):=by
 unfold pt
 split
 ·exact Lim.cons (by omega) (Pv _ _)
 exact Pv _ _
theorem Ub {p:Rat}{n:Int}{L:Nat}(hs:Sz L p) (hL:L+100≤1000000):(gV p (bP n)).length≤100000000:=by
 have h1:=Jg hs (xM (n:=n)) hL
 have h2:=zL (Nat.le_trans (dV (Nat.div_le_self _ (10^bP n))) h1)
 have h3:=xM (n:=n)
 have h4:=Pt (n:=(hal (p*((10^bP n:Nat):Rat))).natAbs) (d:=bP n)
 unfold gV pt
 split
 ·rw[List.length_cons,h4]
  split <;> omega
 rw[h4]
 split <;> omega
def Ji (p:Rat):List Nat:=if 0≤p∧p≤((1:Int):Rat)∧(p*((1000000:Int):Rat)).den=1 then cQ 46 (kU p0 (gV (p*((100:Int):Rat)) (bP 4)))++[37]else []
theorem Ez {p:Rat}(h:p<0∨((1:Int):Rat)<p∨¬(p*((1000000:Int):Rat)).den=1):Ji p=[]:=by
 unfold Ji
 rw[if_neg]
 rintro⟨h1,h2,h3⟩
 rcases h with h | h | h
 ·exact Rat.not_lt.2 h1 h
 ·exact Rat.not_lt.2 h2 h
 exact h h3
theorem KK {p:Rat}(h1:¬p<0) (h2:¬((1:Int):Rat)<p) (h3:(p*((1000000:Int):Rat)).den=1):Ji p=cQ 46 (kU p0 (gV (p*((100:Int):Rat)) (bP 4)))++[37]:=if_pos ⟨Rat.not_lt.1 h1,Rat.not_lt.1 h2,h3⟩
theorem xN {a:Fr4}{p:Rat}{L:Nat}(ha:Qn a p) (hs:Sz L p) (hL:L+102≤1000000):aD true Tryz.prog 19 [] [qF a] (aL (.one (tv (.string (aC (Ji p)))))):=by
 refine bE Tryz.func19 rfl Tryz.ntmps19 rfl aA rfl fun N9 w9 c0 h0=>?_
 have hm2:Sz (L+2) (p*((100:Int):Rat)):=nR hs (cS (by omega) (by omega))
 have hm6:Sz 68719476736 (p*((1000000:Int):Rat)):=(nR hs (cS (by omega) (by omega))).mono (by omega)
 have hWl:Lim 256 (gV (p*((100:Int):Rat)) (bP 4)):=FE _ _
 have hWn:(gV (p*((100:Int):Rat)) (bP 4)).length≤100000000:=Ub hm2 (by omega)
 refine sq ?_;refine rl ?_;refine bx 0 ?_;refine o1 ?_;refine nl ?_;refine sq ?_;refine rl ?_;refine ld ?_;refine bs 1 ?_
 refine WL.sub (ML (i:=5) (k:=1) (t:=27) (z:=4) (n:=1) (l:=[a].flatMap (Fr4.tr false)) 33 rfl rfl rfl rfl (.one .sl)) ?_
 refine ca (FC ha (hs.mono (by omega))) NY ⟨a1 rfl,rfl⟩ (qF (.of p)) ?_
 refine st ?_;refine nl ?_;refine sq ?_;refine sq ?_;refine rd [0] (fun i=>[].contains i) mixed ?_
 refine aX 0 ?_;refine aJ 1 rfl (Ek (Qn.of (p:=p) (hs.mono (M:=68719476736) (by omega)))) Tu ⟨aB rfl,rfl⟩ (.one (tv (.int .i64 p.num.sign))) ?_
 refine df 2 ?_;refine df 3 ?_;refine WD.split (t:=10) rfl rfl (fun h1=>?_) (fun h1=>?_)
 ·refine dH 4 ?_;refine dH 5 ?_;refine dH 6 ?_;refine dH 7 ?_;refine df 8 ?_;refine df 9 ?_;refine dH 10 ?_;refine dH 11 ?_;refine dH 12 ?_;refine dH 13 ?_;refine dH 14 ?_
  refine dH 15 ?_;refine df 16 ?_;refine aS ?_;refine gJ rfl ?_;refine sq ?_;refine rl ?_;refine o1 ?_;refine nl ?_;refine rt ?_
  exact en (.inl rfl) rfl (aR (aN _)) (by decide) (fun _=>trivial) (congrArg (fun z=>FV.one (tv (.string z))) (congrArg aC (Ez (.inl (lI.1 (Int.sign_neg_iff.1 h1)))).symm))
 refine aX 4 ?_;refine aJ 5 rfl (dU (z:=1) (by omega) (by omega)) jD ⟨a1 rfl,rfl⟩ (qF (.of ((1:Int):Rat))) ?_
 refine aJ 6 rfl (Mf (Qn.of (p:=p) (hs.mono (M:=68719476736) (by omega))) (Qn.of (p:=((1:Int):Rat)) (cS (by omega) (by omega)))) zK ⟨aB rfl,aB rfl,rfl⟩ (.one (tv (.int .i64 (p-((1:Int):Rat)).num.sign))) ?_
 refine df 7 ?_;refine df 8 ?_;refine df 9 ?_;refine WD.split (t:=16) rfl rfl (fun h2=>?_) (fun h2=>?_)
 ·refine dH 10 ?_;refine dH 11 ?_;refine dH 12 ?_;refine dH 13 ?_;refine dH 14 ?_;refine dH 15 ?_;refine df 16 ?_;refine aS ?_;refine gJ rfl ?_;refine sq ?_;refine rl ?_
  refine o1 ?_;refine nl ?_;refine rt ?_
  exact en (.inl rfl) rfl (aR (aN _)) (by decide) (fun _=>trivial) (congrArg (fun z=>FV.one (tv (.string z))) (congrArg aC (Ez (.inr (.inl (DJ h2)))).symm))
 refine aX 10 ?_;refine aJ 11 rfl (dU (z:=1000000) (by omega) (by omega)) jD ⟨a1 rfl,rfl⟩ (qF (.of ((1000000:Int):Rat))) ?_
 refine aJ 12 rfl (Ck (Qn.of (p:=p) (hs.mono (M:=68719476736) (by omega))) (Qn.of (p:=((1000000:Int):Rat)) (cS (by omega) (by omega)))) Mi ⟨aB rfl,aB rfl,rfl⟩ (qF (.of (p*((1000000:Int):Rat)))) ?_
 refine Ml (key:=2) 13 (by kernel_rfl) rfl rfl aA rfl ⟨rfl,trivial⟩ ?_
 refine MM (i:=20) (k:=2) (t:=27) (t':=33) (z:=4) (n:=1) (l:=[Fr4.of (p*((1000000:Int):Rat))].flatMap (Fr4.tr false)) rfl rfl rfl rfl (.one .sl) (by rfl) (by rfl) ?_
 refine aJ 14 rfl (Mk (p:=(p*((1000000:Int):Rat))) hm6) NZ ⟨a1 rfl,rfl⟩ (.one (tv (.bool (decide ((p*((1000000:Int):Rat)).den=1))))) ?_
 refine WD.splitb (t:=21) rfl (fun h3=>?_) (fun h3=>?_)
 ·refine df 15 ?_;refine df 16 ?_;refine aS ?_;refine fY rfl ?_;refine sk ?_;refine sq ?_;refine rd [0] (fun i=>[2,4].contains i) mixed ?_
  refine aX 0 ?_;refine aJ 1 rfl (dU (z:=100) (by omega) (by omega)) jD ⟨a1 rfl,rfl⟩ (qF (.of ((100:Int):Rat))) ?_
  refine aJ 2 rfl (Ck (Qn.of (p:=p) (hs.mono (M:=68719476736) (by omega))) (Qn.of (p:=((100:Int):Rat)) (cS (by omega) (by omega)))) Mi ⟨aB rfl,aB rfl,rfl⟩ (qF (.of (p*((100:Int):Rat)))) ?_
  refine aJ 3 rfl (Mj (p:=p*((100:Int):Rat)) (n:=4) (Qn.of (p:=p*((100:Int):Rat)) (hm2.mono (M:=68719476736) (by omega))) hm2 (by omega)) Ua ⟨aB rfl,a1 rfl,rfl⟩ (.one (tv (.string (aC (gV (p*((100:Int):Rat)) (bP 4)))))) ?_
  refine dR 4 (by kernel_rfl) rfl rfl aA rfl (by trivial) ?_ (fun h=>by first | rfl | cases h)
  refine aS ?_;refine sq ?_;refine rl ?_;refine o1 ?_
  refine ca (Th hWl (by omega)) OA ⟨a1 rfl,a1 rfl,rfl⟩ (.one (tv (.string (aC (kU p0 (gV (p*((100:Int):Rat)) (bP 4))))))) ?_
  refine ca (Bs (zC hWl) (Nat.le_trans Jh (by omega))) OB ⟨a1 rfl,a1 rfl,rfl⟩ (.one (tv (.string (aC (cQ 46 (kU p0 (gV (p*((100:Int):Rat)) (bP 4)))))))) ?_
  refine o1 ?_ (hC:=(by rw[aG];have h8:=Ds (c:=46) (l:=kU p0 (gV (p*((100:Int):Rat)) (bP 4)));have h9:=Jh (p:=p0) (l:=(gV (p*((100:Int):Rat)) (bP 4)));show _+1≤_;omega))
  refine WL.cast (t:=31) (u':=.string (aC (cQ 46 (kU p0 (gV (p*((100:Int):Rat)) (bP 4)))++[37]))) rfl (congrArg Value.string (nT _ [37])) ?_;refine o1 ?_;refine nl ?_
  refine rt ?_
  exact en (.inl rfl) rfl (aR (aN _)) (by decide) (fun _=>trivial) (congrArg (fun z=>FV.one (tv (.string z))) (congrArg aC (KK (fun h9=>h1 (Int.sign_neg_iff.2 (lI.2 h9))) (fun h9=>h2 (Io h9)) (of_decide_eq_true h3)).symm))
 refine df 15 ?_;refine df 16 ?_;refine aS ?_;refine gJ rfl ?_;refine sq ?_;refine rl ?_;refine o1 ?_;refine nl ?_;refine rt ?_
 exact en (.inl rfl) rfl (aR (aN _)) (by decide) (fun _=>trivial) (congrArg (fun z=>FV.one (tv (.string z))) (congrArg aC (Ez (.inr (.inr (of_decide_eq_false h3)))).symm))
end Go.Proofs.YtcaakamelngceaaGreatDoor
