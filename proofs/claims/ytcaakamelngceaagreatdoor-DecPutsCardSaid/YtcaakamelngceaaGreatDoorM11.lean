/- Part 11 of a proof: U2 to U4. -/
import Derived.Test.YtcaakamelngceaaGreatDoorM9
import Derived.Test.YtcaakamelngceaaGreatDoorM10
import Derived.Test.YtcaakamelngceaaGreatDoorM5
import Derived.Test.YtcaakamelngceaaGreatDoorM4
import Derived.Test.YtcaakamelngceaaGreatDoorM7
set_option maxRecDepth 100000
set_option linter.unusedVariables false
set_option linter.unusedSimpArgs false
namespace Go.Proofs.YtcaakamelngceaaGreatDoor
open Go Go.RowKit
theorem Qo:CallOk Tryz.prog 123:=.mk Tryz.func123 (by decide) rfl
theorem Qp:CallOk Tryz.prog 124:=.mk Tryz.func124 (by decide) rfl
theorem MB:CallOk Tryz.prog 74:=.mk Tryz.func74 (by decide) rfl
theorem MC:CallOk Tryz.prog 75:=.mk Tryz.func75 (by decide) rfl
theorem FY {l v p:List Nat}{n:Bool}(hl:Lim 256 l):aE false Tryz.prog 123 [⟨103,0,[tv (.string (aC l)),tv (.bool n),tv (.string (aC v)),tv (.string (aC p))]⟩] [.one (.pt 0 0),.one (tv (.string ⟨#[45]⟩))] (Rt [⟨103,0,[tv (.string (aC (if l.take 1=[45]then l.drop 1 else l))),tv (.bool n),tv (.string (aC v)),tv (.string (aC p))]⟩] (.one (tv (.bool (decide (l.take 1=[45])))))):=by
 refine Ez Tryz.func123 rfl Tryz.ntmps123 rfl aA rfl fun N9 M9 w9 c0 h0=>?_
 refine sq ?_;refine rl ?_;refine o1 ?_;refine nl ?_;refine sq ?_;refine rl ?_;(iterate 3 refine o1 ?_);refine ld ?_;refine o1 ?_
 refine ca (Io hl) Ym ⟨a1 rfl,a1 rfl,rfl⟩ (.tup [.one (tv (.string (aC (if l.take 1=[45]then l.drop 1 else l)))),.one (tv (.bool (decide (l.take 1=[45]))))]) ?_
 (iterate 5 refine o1 ?_);refine nl ?_;refine sq ?_;refine rl ?_;(iterate 4 refine o1 ?_);refine st ?_;refine nl ?_;refine sq ?_;refine rl ?_;refine o1 ?_;refine o1 ?_;refine nl ?_
 refine rt ?_
 exact lG (lent':=[⟨103,0,[tv (.string (aC (if l.take 1=[45]then l.drop 1 else l))),tv (.bool n),tv (.string (aC v)),tv (.string (aC p))]⟩]) (.inl rfl) rfl (aV (aO _)) (by decide) (fun _ h=>by cases h) ⟨⟨rfl,rfl⟩,trivial⟩ ⟨rfl,trivial⟩ ⟨rfl,trivial⟩ (fun h=>by cases h) ⟨rfl,rfl⟩
theorem BG {l v p:List Nat}{n:Bool}(hl:Lim 256 l):aE false Tryz.prog 123 [⟨103,0,[tv (.string (aC l)),tv (.bool n),tv (.string (aC v)),tv (.string (aC p))]⟩] [.one (.pt 0 0),.one (tv (.string ⟨#[46]⟩))] (Rt [⟨103,0,[tv (.string (aC (if l.take 1=[46]then l.drop 1 else l))),tv (.bool n),tv (.string (aC v)),tv (.string (aC p))]⟩] (.one (tv (.bool (decide (l.take 1=[46])))))):=by
 refine Ez Tryz.func123 rfl Tryz.ntmps123 rfl aA rfl fun N9 M9 w9 c0 h0=>?_
 refine sq ?_;refine rl ?_;refine o1 ?_;refine nl ?_;refine sq ?_;refine rl ?_;(iterate 3 refine o1 ?_);refine ld ?_;refine o1 ?_
 refine ca (Ef hl) Ym ⟨a1 rfl,a1 rfl,rfl⟩ (.tup [.one (tv (.string (aC (if l.take 1=[46]then l.drop 1 else l)))),.one (tv (.bool (decide (l.take 1=[46]))))]) ?_
 (iterate 5 refine o1 ?_);refine nl ?_;refine sq ?_;refine rl ?_;(iterate 4 refine o1 ?_);refine st ?_;refine nl ?_;refine sq ?_;refine rl ?_;refine o1 ?_;refine o1 ?_;refine nl ?_
 refine rt ?_
 exact lG (lent':=[⟨103,0,[tv (.string (aC (if l.take 1=[46]then l.drop 1 else l))),tv (.bool n),tv (.string (aC v)),tv (.string (aC p))]⟩]) (.inl rfl) rfl (aV (aO _)) (by decide) (fun _ h=>by cases h) ⟨⟨rfl,rfl⟩,trivial⟩ ⟨rfl,trivial⟩ ⟨rfl,trivial⟩ (fun h=>by cases h) ⟨rfl,rfl⟩
theorem Fa {l v p:List Nat}{n:Bool}(hl:Lim 256 l) (hn:l.length≤1000000):aE false Tryz.prog 124 [⟨103,0,[tv (.string (aC l)),tv (.bool n),tv (.string (aC v)),tv (.string (aC p))]⟩] [.one (.pt 0 0)] (Rt [⟨103,0,[tv (.string (aC (l.dropWhile fO))),tv (.bool n),tv (.string (aC v)),tv (.string (aC p))]⟩] (.one (tv (.string (aC (l.takeWhile fO)))))):=by
 refine Ez Tryz.func124 rfl Tryz.ntmps124 rfl aA rfl fun N9 M9 w9 c0 h0=>?_
 have hdl:(l.dropWhile fO).length≤l.length:=(List.dropWhile_sublist _).length_le
 refine sq ?_;refine rl ?_;refine o1 ?_;refine nl ?_;refine sq ?_;refine rl ?_;(iterate 3 refine o1 ?_);refine ld ?_
 refine ca (Qq hl) Uz ⟨a1 rfl,a1 rfl,rfl⟩ (.one (tv (.string (aC (l.dropWhile fO))))) ?_;refine o1 ?_;refine nl ?_;refine sq ?_;refine rd [0] (fun i=>[13].contains i) mixed ?_
 refine dv 0 ?_;refine dv 1 ?_;refine dv 2 ?_;refine aW 3 ?_;refine dv 4 ?_;refine dv 5 ?_;refine dv 6 ?_;refine aW 7 ?_;refine dv 8 ?_
 refine WD.cast (t:=18) (u':=.int .i64 ((l.length:Nat):Int)) rfl (congrArg (fun n:Nat=>Value.int .i64 (n:Int)) (aF _)) ?_
 refine dv 9 ?_;refine dv 10 ?_;refine WD.cast (t:=20) (u':=.int .i64 (((l.dropWhile fO).length:Nat):Int)) rfl (congrArg (fun n:Nat=>Value.int .i64 (n:Int)) (aF _)) ?_
 refine dv 11 ?_;refine WD.cast (t:=21) (u':=.int .i64 ((l.length-((l.dropWhile fO).length):Nat):Int)) rfl (aI (by omega)) ?_
 refine dv 12 ?_ (hC:=(by rw[aF];omega))
 refine WD.cast (t:=22) (u':=.string (aC (l.takeWhile fO))) rfl (congrArg Value.string ((gV _ 0 _).trans (congrArg aC (MD fO l)))) ?_
 refine cZ 13 (by kernel_rfl) rfl rfl aA rfl (by trivial) ?_ (fun h=>by first | rfl | cases h)
 refine aU ?_;refine sq ?_;refine rl ?_;(iterate 4 refine o1 ?_);refine st ?_;refine nl ?_;refine sq ?_;refine rl ?_;refine o1 ?_;refine o1 ?_;refine nl ?_;refine rt ?_
 exact lG (lent':=[⟨103,0,[tv (.string (aC (l.dropWhile fO))),tv (.bool n),tv (.string (aC v)),tv (.string (aC p))]⟩]) (.inl rfl) rfl (aV (aO _)) (by decide) (fun _ h=>by cases h) ⟨⟨rfl,rfl⟩,trivial⟩ ⟨rfl,trivial⟩ ⟨rfl,trivial⟩ (fun h=>by cases h) ⟨rfl,rfl⟩
theorem FZ {a b c d:List Nat}{t:Nat}{n:Bool}{w:List Nat}(h1:a=b) (h2:c=d):some (⟨t,0,[tv (.string (aC a)),tv (.bool n),tv (.string (aC w)),tv (.string (aC c))]⟩:Ob)=some (⟨t,0,[tv (.string (aC b)),tv (.bool n),tv (.string (aC w)),tv (.string (aC d))]⟩:Ob):=by rw[h1,h2]
theorem wO {m:List Nat}(h:fS (bX m)=true):(iG (bX m)).dropWhile fO=rr m∧(iG (bX m)).takeWhile fO=pl m:=by
 unfold rr pl
 rw[if_pos h,if_pos h]
 exact⟨rfl,rfl⟩
theorem GA {m:List Nat}(h:fS (bX m)=false):iG (bX m)=rr m∧[]=pl m:=by
 rw[Df h,mF h,ME h]
 exact⟨rfl,rfl⟩
theorem QC {m:List Nat}(h:fS (bX m)=false):(fS (bX m)&&decide (pl m=[]))=false:=by rw[h];rfl
theorem QD {m:List Nat}(h:fS (bX m)=true) (h2:decide ((iG (bX m)).takeWhile fO=[])=false):(fS (bX m)&&decide (pl m=[]))=false:=by
 rw[(wO h).2]at h2
 rw[h2,Bool.and_false]
theorem GB {l:List Nat}{c:List Nat}(_:c=rr (aG l)) (h:fS (bX (aG l))=true) (h2:decide ((iG (bX (aG l))).takeWhile fO=[])=true):gO l=false:=by
 rw[(wO h).2]at h2
 unfold gO fY
 rw[h,h2]
 rfl
theorem GC {m:List Nat}(h:Lim 256 m):Lim 256 (rr m):=by
 unfold rr
 split
 ·exact kS (zV (kS h))
 exact kS h
theorem GD {l:List Nat}(hl:Lim 256 l) (hn:l.length≤1000000):aE false Tryz.prog 74 [⟨103,0,[tv (.string (aC l)),tv (.bool false),tv (.string (aC [])),tv (.string (aC []))]⟩] [.one (.pt 0 0)] (Rt [⟨103,0,[tv (.string (aC (rr (aG l)))),tv (.bool (dD l)),tv (.string (aC (wh (aG l)))),tv (.string (aC (pl (aG l))))]⟩] (.one (tv (.bool (gO l))))):=by
 refine Ez Tryz.func74 rfl Tryz.ntmps74 rfl aA rfl fun N9 M9 w9 c0 h0=>?_
 have hWn:(wh (aG l)++pl (aG l)).length≤1000000:=by rw[List.length_append];have:=tM (aG l);have:=zW (l:=l);omega
 have hL:=BH hl
 have hnL:=Nat.le_trans (zW (l:=l)) hn
 have hR:Lim 256 (bX (aG l)):=kS hL
 have hnR:=Nat.le_trans (BI (aG l)) hnL
 have hwl:=tM (aG l)
 have hWP:Lim 256 (wh (aG l)++pl (aG l)):=xZ.append GF
 refine sq ?_;refine rl ?_;refine o1 ?_;refine nl ?_;refine sq ?_;refine rl ?_;(iterate 4 refine o1 ?_)
 refine cl 1 [0] (FY (l:=l) (n:=false) (v:=[]) (p:=[]) hl) Qo ⟨oe rfl rfl,rfl⟩ ⟨rfl,rfl,rfl⟩ (ok:=[some ⟨103,0,[tv (.string (aC (aG l))),tv (.bool false),tv (.string (aC [])),tv (.string (aC []))]⟩]) ⟨oe rfl rfl,rfl⟩ ?_
 refine o1 ?_;refine o1 ?_;refine st ?_;refine nl ?_;refine sq ?_;refine rl ?_;(iterate 4 refine o1 ?_)
 refine cl 1 [0] (Fa (l:=(aG l)) (n:=(dD l)) (v:=[]) (p:=[]) hL hnL) Qp ⟨oe rfl rfl,rfl⟩ ⟨rfl,rfl⟩ (ok:=[some ⟨103,0,[tv (.string (aC (bX (aG l)))),tv (.bool (dD l)),tv (.string (aC [])),tv (.string (aC []))]⟩]) ⟨oe rfl rfl,rfl⟩ ?_
 refine o1 ?_;refine o1 ?_;refine st ?_;refine nl ?_
 refine md (γ:=Unit) (fun _=>cE [(0,.one (.pt 0 0))]) (fun _=>([⟨103,0,[tv (.string (aC (rr (aG l)))),tv (.bool (dD l)),tv (.string (aC (wh (aG l)))),tv (.string (aC (pl (aG l))))]⟩]:List Ob).map some) (fun _=>(fS (bX (aG l))&&decide ((pl (aG l))=[]))=false) ?_ fun _ hfk=>?_
 ·refine sq ?_;refine rl ?_;(iterate 3 refine o1 ?_)
  refine cl 1 [0] (BG (l:=(bX (aG l))) (n:=(dD l)) (v:=(wh (aG l))) (p:=[]) hR) Qo ⟨oe rfl rfl,rfl⟩ ⟨rfl,rfl,rfl⟩ (ok:=[some ⟨103,0,[tv (.string (aC (iG (bX (aG l))))),tv (.bool (dD l)),tv (.string (aC (wh (aG l)))),tv (.string (aC []))]⟩]) ⟨oe rfl rfl,rfl⟩ ?_
  refine nl ?_;refine iL rfl (fun h1=>?_) (fun h1=>?_)
  ·refine sq ?_;refine rl ?_;(iterate 4 refine o1 ?_)
   refine cl 1 [0] (Fa (l:=(iG (bX (aG l)))) (n:=(dD l)) (v:=(wh (aG l))) (p:=[]) (zV hR) (Nat.le_trans BJ hnR)) Qp ⟨oe rfl rfl,rfl⟩ ⟨rfl,rfl⟩ (ok:=[some ⟨103,0,[tv (.string (aC ((iG (bX (aG l))).dropWhile fO))),tv (.bool (dD l)),tv (.string (aC (wh (aG l)))),tv (.string (aC []))]⟩]) ⟨oe rfl rfl,rfl⟩ ?_
   refine o1 ?_;refine o1 ?_;refine st ?_;refine nl ?_;refine sq ?_;refine rl ?_;(iterate 3 refine o1 ?_);refine ld ?_;refine o1 ?_
   refine WL.cast (t:=33) (u':=.bool (decide ((iG (bX (aG l))).takeWhile fO=[]))) rfl (congrArg Value.bool (gX (GG (zV hR)))) ?_;refine nl ?_
   refine iL rfl (fun h2=>?_) (fun h2=>?_)
   ·refine sq ?_;refine rl ?_;refine o1 ?_;refine nl ?_;refine rt ?_;have hok:gO l=false:=GB (wO h1).1 h1 h2
    exact lG (lent':=[⟨103,0,[tv (.string (aC (rr (aG l)))),tv (.bool (dD l)),tv (.string (aC (wh (aG l)))),tv (.string (aC (pl (aG l))))]⟩]) (.inl rfl) rfl (aV (aO _)) (by decide) (fun _ h=>by cases h) ⟨⟨rfl,rfl⟩,trivial⟩ ⟨FZ (wO h1).1 (wO h1).2,trivial⟩ ⟨rfl,trivial⟩ (fun h=>by cases h) ⟨rfl,by rw[hok]⟩
   refine sk ?_;exact⟨(),QD h1 h2,Fb h0 [0] _ _ (by decide) rfl ⟨rfl,trivial⟩ ⟨oe rfl (FZ (wO h1).1 (wO h1).2),rfl⟩⟩
  refine sk ?_;exact⟨(),QC h1,Fb h0 [0] _ _ (by decide) rfl ⟨rfl,trivial⟩ ⟨oe rfl (FZ (GA h1).1 (GA h1).2),rfl⟩⟩
 refine sq ?_;refine rd [0] (fun i=>[11].contains i) mixed ?_
 refine dv 0 ?_;refine dv 1 ?_;refine dv 2 ?_;refine aW 3 ?_;refine dv 4 ?_;refine dv 5 ?_;refine dv 6 ?_;refine aW 7 ?_;refine dv 8 ?_ (hC:=(by rw[aF,aF];omega))
 refine WD.cast (t:=42) (u':=.string (aC (wh (aG l)++(pl (aG l))))) rfl (congrArg Value.string (fZ _ _)) ?_
 refine aJ 9 rfl (BK hWP (by omega)) Ms ⟨a1 rfl,a1 rfl,rfl⟩ (.one (tv (.string (aC ((iN p0 (wh (aG l)++(pl (aG l)))).dropWhile p0))))) ?_
 refine df 10 ?_;refine WD.cast (t:=44) (u':=.bool (tN (aG l))) rfl (congrArg Value.bool ((gX (kS (uX hWP))).trans (Va _))) ?_
 refine cZ 11 (by kernel_rfl) rfl rfl aA rfl (by trivial) ?_ (fun h=>by first | rfl | cases h)
 refine aU ?_;refine sq ?_;refine rl ?_;(iterate 4 refine o1 ?_);refine ld ?_;refine o1 ?_
 refine WL.cast (t:=50) (u':=.bool (decide ((rr (aG l))=[]))) rfl (congrArg Value.bool (gX (GC hL))) ?_;refine o1 ?_;refine WL.splitb (t:=51) rfl (fun h3=>?_) (fun h3=>?_)
 ·(iterate 3 refine o1 ?_);refine ld ?_;refine o1 ?_;refine WL.cast (t:=56) (u':=.bool (!decide ((wh (aG l))=[]))) rfl (congrArg Value.bool (congrArg not (gX xZ))) ?_;refine o1 ?_
  refine o1 ?_;refine WL.splitb (t:=58) rfl (fun h4=>?_) (fun h4=>?_)
  ·(iterate 3 refine o1 ?_);refine ld ?_;refine o1 ?_
   refine WL.cast (t:=63) (u':=.bool (decide ((wh (aG l))=[48]))) rfl (congrArg Value.bool (jB (l':=[48]) xZ (Lim.cons (by omega) Lim.nil))) ?_
   refine o1 ?_;refine WL.splitb (t:=64) rfl (fun h5=>?_) (fun h5=>?_)
   ·(iterate 6 refine cH ?_);(iterate 6 refine o1 ?_);refine ld ?_;refine o1 ?_;refine WL.splitb (t:=78) rfl (fun h6=>?_) (fun h6=>?_)
    ·refine o1 ?_;refine o1 ?_;refine WL.splitb (t:=80) rfl (fun h7=>?_) (fun h7=>?_)
     ·(iterate 3 refine o1 ?_);refine nl ?_;refine rt ?_
      exact lG (lent':=[⟨103,0,[tv (.string (aC (rr (aG l)))),tv (.bool (dD l)),tv (.string (aC (wh (aG l)))),tv (.string (aC (pl (aG l))))]⟩]) (.inl rfl) rfl (aV (aO _)) (by decide) (fun _ h=>by cases h) ⟨⟨rfl,rfl⟩,trivial⟩ ⟨rfl,trivial⟩ ⟨rfl,trivial⟩ (fun h=>by cases h) ⟨rfl,congrArg (fun b=>FV.one (tv (.bool b))) (by unfold gO fY;simp only[hfk,h3,h4,h5,h6,h7] <;> first | rfl | (simp;done) | (simp;omega) | (simp;exact fun h=>absurd (by omega) h))⟩
     (iterate 3 refine o1 ?_);refine nl ?_;refine rt ?_
     exact lG (lent':=[⟨103,0,[tv (.string (aC (rr (aG l)))),tv (.bool (dD l)),tv (.string (aC (wh (aG l)))),tv (.string (aC (pl (aG l))))]⟩]) (.inl rfl) rfl (aV (aO _)) (by decide) (fun _ h=>by cases h) ⟨⟨rfl,rfl⟩,trivial⟩ ⟨rfl,trivial⟩ ⟨rfl,trivial⟩ (fun h=>by cases h) ⟨rfl,congrArg (fun b=>FV.one (tv (.bool b))) (by unfold gO fY;simp only[hfk,h3,h4,h5,h6,h7] <;> first | rfl | (simp;done) | (simp;omega) | (simp;exact fun h=>absurd (by omega) h))⟩
    refine cH ?_;(iterate 4 refine o1 ?_);refine nl ?_;refine rt ?_
    exact lG (lent':=[⟨103,0,[tv (.string (aC (rr (aG l)))),tv (.bool (dD l)),tv (.string (aC (wh (aG l)))),tv (.string (aC (pl (aG l))))]⟩]) (.inl rfl) rfl (aV (aO _)) (by decide) (fun _ h=>by cases h) ⟨⟨rfl,rfl⟩,trivial⟩ ⟨rfl,trivial⟩ ⟨rfl,trivial⟩ (fun h=>by cases h) ⟨rfl,congrArg (fun b=>FV.one (tv (.bool b))) (by unfold gO fY;simp only[hfk,h3,h4,h5,h6] <;> first | rfl | (simp;done) | (simp;omega) | (simp;exact fun h=>absurd (by omega) h))⟩
   (iterate 3 refine o1 ?_);refine ld ?_;refine o1 ?_ (hC:=(by rw[aF];exact pX (Jl h4)))
   refine WL.cast (t:=69) (u':=.int .u8 (((nth (wh (aG l)) 0):Nat):Int)) rfl (congrArg (fun n:Nat=>Value.int .u8 (n:Int)) (eM (i:=0) (pX (Jl h4)) (dR xZ (pX (Jl h4))))) ?_
   (iterate 4 refine o1 ?_);refine WL.split (t:=73) rfl (fun h8=>?_) (fun h8=>?_)
   ·(iterate 3 refine o1 ?_);refine ld ?_;refine o1 ?_;refine WL.splitb (t:=78) rfl (fun h9=>?_) (fun h9=>?_)
    ·refine o1 ?_;refine o1 ?_;refine WL.splitb (t:=80) rfl (fun h10=>?_) (fun h10=>?_)
     ·(iterate 3 refine o1 ?_);refine nl ?_;refine rt ?_
      exact lG (lent':=[⟨103,0,[tv (.string (aC (rr (aG l)))),tv (.bool (dD l)),tv (.string (aC (wh (aG l)))),tv (.string (aC (pl (aG l))))]⟩]) (.inl rfl) rfl (aV (aO _)) (by decide) (fun _ h=>by cases h) ⟨⟨rfl,rfl⟩,trivial⟩ ⟨rfl,trivial⟩ ⟨rfl,trivial⟩ (fun h=>by cases h) ⟨rfl,congrArg (fun b=>FV.one (tv (.bool b))) (by unfold gO fY;simp only[hfk,h3,h4,h5,decide_eq_true h8,h9,h10] <;> first | rfl | (simp;done) | (simp;omega) | (simp;exact fun h=>absurd (by omega) h))⟩
     (iterate 3 refine o1 ?_);refine nl ?_;refine rt ?_
     exact lG (lent':=[⟨103,0,[tv (.string (aC (rr (aG l)))),tv (.bool (dD l)),tv (.string (aC (wh (aG l)))),tv (.string (aC (pl (aG l))))]⟩]) (.inl rfl) rfl (aV (aO _)) (by decide) (fun _ h=>by cases h) ⟨⟨rfl,rfl⟩,trivial⟩ ⟨rfl,trivial⟩ ⟨rfl,trivial⟩ (fun h=>by cases h) ⟨rfl,congrArg (fun b=>FV.one (tv (.bool b))) (by unfold gO fY;simp only[hfk,h3,h4,h5,decide_eq_true h8,h9,h10] <;> first | rfl | (simp;done) | (simp;omega) | (simp;exact fun h=>absurd (by omega) h))⟩
    refine cH ?_;(iterate 4 refine o1 ?_);refine nl ?_;refine rt ?_
    exact lG (lent':=[⟨103,0,[tv (.string (aC (rr (aG l)))),tv (.bool (dD l)),tv (.string (aC (wh (aG l)))),tv (.string (aC (pl (aG l))))]⟩]) (.inl rfl) rfl (aV (aO _)) (by decide) (fun _ h=>by cases h) ⟨⟨rfl,rfl⟩,trivial⟩ ⟨rfl,trivial⟩ ⟨rfl,trivial⟩ (fun h=>by cases h) ⟨rfl,congrArg (fun b=>FV.one (tv (.bool b))) (by unfold gO fY;simp only[hfk,h3,h4,h5,decide_eq_true h8,h9] <;> first | rfl | (simp;done) | (simp;omega) | (simp;exact fun h=>absurd (by omega) h))⟩
   (iterate 8 refine cH ?_);refine o1 ?_;refine o1 ?_;refine nl ?_;refine rt ?_
   exact lG (lent':=[⟨103,0,[tv (.string (aC (rr (aG l)))),tv (.bool (dD l)),tv (.string (aC (wh (aG l)))),tv (.string (aC (pl (aG l))))]⟩]) (.inl rfl) rfl (aV (aO _)) (by decide) (fun _ h=>by cases h) ⟨⟨rfl,rfl⟩,trivial⟩ ⟨rfl,trivial⟩ ⟨rfl,trivial⟩ (fun h=>by cases h) ⟨rfl,congrArg (fun b=>FV.one (tv (.bool b))) (by unfold gO fY;simp only[hfk,h3,h4,h5,decide_eq_false h8] <;> first | rfl | (simp;done) | (simp;omega) | (simp;exact fun h=>absurd (by omega) h))⟩
  (iterate 13 refine cH ?_);refine o1 ?_;refine o1 ?_;(iterate 8 refine cH ?_);refine o1 ?_;refine o1 ?_;refine nl ?_;refine rt ?_
  exact lG (lent':=[⟨103,0,[tv (.string (aC (rr (aG l)))),tv (.bool (dD l)),tv (.string (aC (wh (aG l)))),tv (.string (aC (pl (aG l))))]⟩]) (.inl rfl) rfl (aV (aO _)) (by decide) (fun _ h=>by cases h) ⟨⟨rfl,rfl⟩,trivial⟩ ⟨rfl,trivial⟩ ⟨rfl,trivial⟩ (fun h=>by cases h) ⟨rfl,congrArg (fun b=>FV.one (tv (.bool b))) (by unfold gO fY;simp only[hfk,h3,h4] <;> first | rfl | (simp;done) | (simp;omega) | (simp;exact fun h=>absurd (by omega) h))⟩
 (iterate 5 refine cH ?_);refine o1 ?_;refine o1 ?_;(iterate 13 refine cH ?_);refine o1 ?_;refine o1 ?_;(iterate 8 refine cH ?_);refine o1 ?_;refine o1 ?_;refine nl ?_;refine rt ?_
 exact lG (lent':=[⟨103,0,[tv (.string (aC (rr (aG l)))),tv (.bool (dD l)),tv (.string (aC (wh (aG l)))),tv (.string (aC (pl (aG l))))]⟩]) (.inl rfl) rfl (aV (aO _)) (by decide) (fun _ h=>by cases h) ⟨⟨rfl,rfl⟩,trivial⟩ ⟨rfl,trivial⟩ ⟨rfl,trivial⟩ (fun h=>by cases h) ⟨rfl,congrArg (fun b=>FV.one (tv (.bool b))) (by unfold gO fY;simp only[hfk,h3] <;> first | rfl | (simp;done) | (simp;omega) | (simp;exact fun h=>absurd (by omega) h))⟩
theorem GH {x k:Nat}(h:k≤4096):xV x (k:Int)=x^k:=by
 have e:tI (k:Int)=0:=by
  unfold tI
  rw[if_neg (by omega),if_neg (by omega)]
 unfold xV
 rw[if_pos e,Int.toNat_natCast]
theorem GI {l v p:List Nat}{n:Bool}(hd:∀c∈v++p,48≤c∧c≤57) (hn:(v++p).length≤1000):aE false Tryz.prog 75 [⟨103,0,[tv (.string (aC l)),tv (.bool n),tv (.string (aC v)),tv (.string (aC p))]⟩] [.one (.pt 0 0)] (Rt [⟨103,0,[tv (.string (aC l)),tv (.bool n),tv (.string (aC v)),tv (.string (aC p))]⟩] (qF (.of (Rat.divInt (bG n (bT (v++p))) (((10^p.length):Nat):Int))))):=by
 refine Ez Tryz.func75 rfl Tryz.ntmps75 rfl aA rfl fun N9 M9 w9 c0 h0=>?_
 have hV:Lim 256 (v++p):=fun c hc=>by have:=hd c hc;omega
 have hlv:v.length+p.length=(v++p).length:=(List.length_append).symm
 have hst:=GJ hd (by omega)
 have hpw:xV 10 (p.length:Int)=10^p.length:=GH (by omega)
 refine sq ?_;refine rl ?_;refine al 1 ?_;refine nl ?_;refine sq ?_;refine rd [0,1] (fun i=>[10].contains i) mixed ?_
 refine dv 0 ?_;refine dv 1 ?_;refine dv 2 ?_;refine aW 3 ?_;refine dv 4 ?_;refine dv 5 ?_;refine dv 6 ?_;refine aW 7 ?_;refine dv 8 ?_ (hC:=(by rw[aF,aF];omega))
 refine WD.cast (t:=18) (u':=.string (aC (v++p))) rfl (congrArg Value.string (fZ _ _)) ?_
 refine aJ 9 rfl (yA hV) Uz ⟨a1 rfl,a1 rfl,rfl⟩ (.one (tv (.string (aC ((v++p).dropWhile (· ==48)))))) ?_
 refine cZ 10 (by kernel_rfl) rfl rfl aA rfl (by trivial) ?_ (fun h=>by first | rfl | cases h)
 refine aU ?_
 refine md (γ:=Unit) (fun _=>cE [(0,.one (.pt 0 0)),(2,.one (.pt 1 0)),(3,.one (tv (.string (aC (lH (v++p))))))]) (fun _=>([⟨103,0,[tv (.string (aC l)),tv (.bool n),tv (.string (aC v)),tv (.string (aC p))]⟩,⟨27,0,[tv (.bool false),tv (.slice none 0 0),tv (.bool false),tv (.slice none 0 0)]⟩]:List Ob).map some) (fun _=>True) ?_ fun _ _=>?_
 ·refine sq ?_;refine rl ?_;refine o1 ?_;refine o1 ?_;refine WL.cast (t:=21) (u':=.bool (decide (((v++p).dropWhile (· ==48))=[]))) rfl (congrArg Value.bool (gX (kS hV))) ?_
  refine nl ?_;refine iL rfl (fun h1=>?_) (fun h1=>?_)
  ·refine rl ?_;refine o1 ?_;refine nl ?_
   exact⟨(),trivial,Fb h0 [0,1] _ _ (by decide) rfl ⟨rfl,rfl,(congrArg (fun b=>some (FV.one (tv (.string (aC b))))) (show(lH (v++p))=[48] by unfold lH;rw[if_pos (of_decide_eq_true h1)])),trivial⟩ ⟨oe rfl rfl,oe rfl rfl,rfl⟩⟩
  refine sk ?_
  exact⟨(),trivial,Fb h0 [0,1] _ _ (by decide) rfl ⟨rfl,rfl,(congrArg (fun b=>some (FV.one (tv (.string (aC b))))) (show(lH (v++p))=((v++p).dropWhile (· ==48)) by unfold lH;rw[if_neg (of_decide_eq_false h1)])),trivial⟩ ⟨oe rfl rfl,oe rfl rfl,rfl⟩⟩
 refine sq ?_;refine rl ?_;refine o1 ?_
 refine ca (BA (l:=(lH (v++p))) (BL hV) (Nat.le_trans Js (by omega))) MF ⟨a1 rfl,rfl⟩ (.tup [.one (.t (sU false (dg 4294967296 (Jk (lH (v++p)))))),.one (tv (.int .i64 (sN (lH (v++p)))))]) ?_
 (iterate 5 refine o1 ?_);refine nl ?_;refine sq ?_;refine rl ?_;(iterate 3 refine o1 ?_);refine ld ?_;refine o1 ?_
 refine WL.cast (t:=32) (u':=.int .i64 ((p.length:Nat):Int)) rfl (congrArg (fun n:Nat=>Value.int .i64 (n:Int)) (aF _)) ?_
 refine ca (LV (x:=10) (n:=(p.length:Int)) (by omega)) MG ⟨a1 rfl,a1 rfl,rfl⟩ (.tup [.one (.t (sU false (dg 4294967296 (xV 10 (p.length:Int))))),.one (tv (.int .i64 (tI (p.length:Int))))]) ?_
 (iterate 5 refine o1 ?_);refine nl ?_;refine sq ?_;refine rl ?_;(iterate 3 refine o1 ?_);refine ld ?_;(iterate 4 refine o1 ?_)
 refine ca (Nd (a:=⟨n,(dg 4294967296 (Jk (lH (v++p))))⟩) (b:=⟨false,(dg 4294967296 (xV 10 (p.length:Int)))⟩) (k:=bG n (bT (v++p))) (k':=(((10^p.length):Nat):Int)) ⟨aM (by omega) _,by dsimp only;rw[hst.2];exact Nat.le_trans (Fc hd) (by omega),by dsimp only;rw[hst.2];exact BM n _⟩ ⟨aM (by omega) _,by dsimp only;rw[hpw];exact Nat.le_trans (zX _) (by omega),by dsimp only;rw[hpw];exact lL _⟩) Ux ⟨aB rfl,aB rfl,rfl⟩ (.tup [qF (.of (Rat.divInt (bG n (bT (v++p))) (((10^p.length):Nat):Int))),.one (tv (.int .i64 (if(((10^p.length):Nat):Int)=0 then 20 else 0)))]) ?_
 (iterate 3 refine o1 ?_);refine al 2 ?_;refine st ?_;refine o1 ?_;refine nl ?_;refine sq ?_;refine rl ?_;refine ld ?_;refine st ?_;refine nl ?_;refine rt ?_
 exact lG (lent':=[⟨103,0,[tv (.string (aC l)),tv (.bool n),tv (.string (aC v)),tv (.string (aC p))]⟩]) (.inl rfl) rfl (aV (.agg (.cons (.id rfl) (.cons (.id rfl) (.cons (.id rfl) (.cons (.id rfl) .nil)))))) (by decide) (fun _ h=>by cases h) ⟨⟨rfl,rfl⟩,trivial⟩ ⟨rfl,trivial⟩ ⟨rfl,trivial⟩ (fun h=>by cases h) ⟨rfl,rfl⟩
theorem yB {l:List Nat}{m:Nat}(h:gO l=false∨m<(pl (aG l)).length):fB l m=60:=by
 unfold fB
 rw[if_neg]
 rintro⟨h1,h2⟩
 rcases h with h | h
 ·rw[h]at h1;cases h1
 omega
theorem GK {l:List Nat}{m:Nat}(h:gO l=true) (h2:(pl (aG l)).length≤m) (h3:40<(wh (aG l)).length+(pl (aG l)).length):fB l m=3:=by
 unfold fB
 rw[if_pos ⟨h,h2⟩,if_pos h3]
theorem GL {l:List Nat}{m:Nat}(h:gO l=true) (h2:(pl (aG l)).length≤m) (h3:¬40<(wh (aG l)).length+(pl (aG l)).length):fB l m=0:=by
 unfold fB
 rw[if_pos ⟨h,h2⟩,if_neg h3]
theorem zY {l:List Nat}{m:Nat}(hl:Lim 256 l) (hn:l.length≤1000000):aE false Tryz.prog 31 [] [.one (tv (.string (aC l))),.one (tv (.int .i64 ((m:Nat):Int)))] (aN (.tup [qF (.of (dE l m)),.one (tv (.int .i64 (fB l m)))])):=by
 refine bF Tryz.func31 rfl Tryz.ntmps31 rfl aA rfl fun N9 w9 c0 h0=>?_
 have hwl:=tM (aG l)
 have hnL:=Nat.le_trans (zW (l:=l)) hn
 refine sq ?_;refine rl ?_;refine al 0 ?_;refine o1 ?_;refine nl ?_;refine sq ?_;refine rl ?_;(iterate 3 refine o1 ?_);refine bx 1 ?_;refine o1 ?_;refine nl ?_;refine sq ?_;refine bl ?_
 refine sq ?_;refine rl ?_;refine o1 ?_
 refine cl 2 [1] (GD hl hn) MB ⟨oe rfl rfl,rfl⟩ ⟨rfl,rfl⟩ (ok:=[some ⟨103,0,[tv (.string (aC (rr (aG l)))),tv (.bool (dD l)),tv (.string (aC (wh (aG l)))),tv (.string (aC (pl (aG l))))]⟩]) ⟨oe rfl rfl,rfl⟩ ?_
 refine WL.splitb (t:=13) rfl (fun h1=>?_) (fun h1=>?_)
 ·(iterate 5 refine o1 ?_);refine ld ?_;refine o1 ?_
  refine WL.cast (t:=20) (u':=.int .i64 (((pl (aG l)).length:Nat):Int)) rfl (congrArg (fun n:Nat=>Value.int .i64 (n:Int)) (aF _)) ?_
  (iterate 4 refine o1 ?_);refine nl ?_;refine bR rfl (fun h2=>?_) (fun h2=>?_)
  ·refine sq ?_;refine rl ?_;refine ca (eB (z:=0) (by omega) (by omega)) jL ⟨a1 rfl,rfl⟩ (qF (.of ((0:Int):Rat))) ?_
   refine st ?_;refine o1 ?_;refine nl ?_;refine rt ?_;have he:fB l m=60:=yB (.inr (by omega))
   have hq:dE l m=((0:Int):Rat):=(if_neg (by rw[he];decide))
   exact en (.inl rfl) rfl (dB (.cons (.agg (.cons (.id rfl) (.cons (.id rfl) (.cons (.id rfl) (.cons (.id rfl) .nil))))) (.cons (aO _) .nil))) (by decide) (fun h=>by cases h) (by rw[he,hq];rfl)
  refine sq ?_;refine rd [0,1] (fun i=>[].contains i) mixed ?_
  refine dv 0 ?_;refine dv 1 ?_;refine dv 2 ?_;refine aW 3 ?_;refine dv 4 ?_
  refine WD.cast (t:=30) (u':=.int .i64 (((wh (aG l)).length:Nat):Int)) rfl (congrArg (fun n:Nat=>Value.int .i64 (n:Int)) (aF _)) ?_
  refine dv 5 ?_;refine dv 6 ?_;refine dv 7 ?_;refine aW 8 ?_;refine dv 9 ?_
  refine WD.cast (t:=35) (u':=.int .i64 (((pl (aG l)).length:Nat):Int)) rfl (congrArg (fun n:Nat=>Value.int .i64 (n:Int)) (aF _)) ?_
  refine dv 10 ?_;refine WD.cast (t:=36) (u':=.int .i64 (((wh (aG l)).length+((pl (aG l)).length):Nat):Int)) rfl (aI (by omega)) ?_
  refine dv 11 ?_;refine cZ 12 (by kernel_rfl) rfl rfl aA rfl (by trivial) ?_ (fun h=>by first | rfl | cases h)
  refine aU ?_;refine bR rfl (fun h3=>?_) (fun h3=>?_)
  ·refine sq ?_;refine rl ?_;refine ca (eB (z:=0) (by omega) (by omega)) jL ⟨a1 rfl,rfl⟩ (qF (.of ((0:Int):Rat))) ?_
   refine st ?_;refine o1 ?_;refine nl ?_;refine rt ?_;have he:fB l m=3:=GK h1 (by omega) (by omega)
   have hq:dE l m=((0:Int):Rat):=(if_neg (by rw[he];decide))
   exact en (.inl rfl) rfl (dB (.cons (.agg (.cons (.id rfl) (.cons (.id rfl) (.cons (.id rfl) (.cons (.id rfl) .nil))))) (.cons (aO _) .nil))) (by decide) (fun h=>by cases h) (by rw[he,hq];rfl)
  refine sk ?_;refine sq ?_;refine rl ?_;refine o1 ?_
  refine cl 2 [1] (GI (l:=(rr (aG l))) (n:=(dD l)) (v:=(wh (aG l))) (p:=(pl (aG l))) (Ng _) (by rw[List.length_append];omega)) MC ⟨oe rfl rfl,rfl⟩ ⟨rfl,rfl⟩ (ok:=[some ⟨103,0,[tv (.string (aC (rr (aG l)))),tv (.bool (dD l)),tv (.string (aC (wh (aG l)))),tv (.string (aC (pl (aG l))))]⟩]) ⟨oe rfl rfl,rfl⟩ ?_
  refine st ?_;refine o1 ?_;refine nl ?_;refine rt ?_;have he:fB l m=0:=GL h1 (by omega) (by omega)
  have hq:dE l m=sR l:=if_pos he
  exact en (.inl rfl) rfl (dB (.cons (.agg (.cons (.id rfl) (.cons (.id rfl) (.cons (.id rfl) (.cons (.id rfl) .nil))))) (.cons (aO _) .nil))) (by decide) (fun h=>by cases h) (by rw[he,hq];rfl)
 refine o1 ?_;refine o1 ?_;(iterate 7 refine cH ?_);refine o1 ?_;refine o1 ?_;refine nl ?_;refine fX rfl ?_;refine sq ?_;refine rl ?_
 refine ca (eB (z:=0) (by omega) (by omega)) jL ⟨a1 rfl,rfl⟩ (qF (.of ((0:Int):Rat))) ?_
 refine st ?_;refine o1 ?_;refine nl ?_;refine rt ?_;have he:fB l m=60:=yB (.inl h1)
 have hq:dE l m=((0:Int):Rat):=(if_neg (by rw[he];decide))
 exact en (.inl rfl) rfl (dB (.cons (.agg (.cons (.id rfl) (.cons (.id rfl) (.cons (.id rfl) (.cons (.id rfl) .nil))))) (.cons (aO _) .nil))) (by decide) (fun h=>by cases h) (by rw[he,hq];rfl)
theorem BN {l:List Nat}(hl:Lim 256 l) (hn:l.length≤1000000):aE false Tryz.prog 8 [] [.one (tv (.string (aC l)))] (aN (.tup [qF (.of (dE l l.length)),.one (tv (.int .i64 (fB l l.length)))])):=by
 refine bF Tryz.func8 rfl Tryz.ntmps8 rfl aA rfl fun N9 w9 c0 h0=>?_
 refine sq ?_;refine rl ?_;refine al 0 ?_;refine o1 ?_;refine nl ?_;refine sq ?_;refine rl ?_;(iterate 3 refine o1 ?_)
 refine WL.cast (t:=6) (u':=.int .i64 ((l.length:Nat):Int)) rfl (congrArg (fun n:Nat=>Value.int .i64 (n:Int)) (aF _)) ?_
 refine ca (zY (l:=l) (m:=l.length) hl hn) Vb ⟨a1 rfl,a1 rfl,rfl⟩ (.tup [qF (.of (dE l l.length)),.one (tv (.int .i64 (fB l l.length)))]) ?_;refine o1 ?_;refine o1 ?_;refine st ?_
 refine o1 ?_;refine nl ?_;refine rt ?_
 exact en (.inl rfl) rfl (dB (.cons (.agg (.cons (.id rfl) (.cons (.id rfl) (.cons (.id rfl) (.cons (.id rfl) .nil))))) (.cons (aO _) .nil))) (by decide) (fun h=>by cases h) rfl
theorem Fd {l:List Nat}(hl:Lim 256 l) (hn:l.length≤1000000):aE false Tryz.prog 9 [] [.one (tv (.string (aC l)))] (aN (.tup [qF (.of (dE l 2)),.one (tv (.int .i64 (fB l 2)))])):=by
 refine bF Tryz.func9 rfl Tryz.ntmps9 rfl aA rfl fun N9 w9 c0 h0=>?_
 refine sq ?_;refine rl ?_;refine al 0 ?_;refine o1 ?_;refine nl ?_;refine sq ?_;refine rl ?_;refine o1 ?_
 refine ca (zY (l:=l) (m:=2) hl hn) Vb ⟨a1 rfl,a1 rfl,rfl⟩ (.tup [qF (.of (dE l 2)),.one (tv (.int .i64 (fB l 2)))]) ?_;refine o1 ?_;refine o1 ?_;refine st ?_;refine o1 ?_
 refine nl ?_;refine rt ?_
 exact en (.inl rfl) rfl (dB (.cons (.agg (.cons (.id rfl) (.cons (.id rfl) (.cons (.id rfl) (.cons (.id rfl) .nil))))) (.cons (aO _) .nil))) (by decide) (fun h=>by cases h) rfl
def eU (l:List Nat):Int:=if iF 37 l=true∧fB (cS 37 l) 4=0∧0≤(dE (cS 37 l) 4)∧(dE (cS 37 l) 4)≤((100:Int):Rat)then 0 else 60
def dX (l:List Nat):Rat:=if eU l=0 then(dE (cS 37 l) 4)/((100:Int):Rat)else 0
theorem kT {l:List Nat}(h:iF 37 l=false∨fB (cS 37 l) 4≠0∨(dE (cS 37 l) 4)<0∨((100:Int):Rat)<(dE (cS 37 l) 4)):eU l=60:=by
 unfold eU
 rw[if_neg]
 rintro⟨h1,h2,h3,h4⟩
 rcases h with h | h | h | h
 ·rw[h]at h1;cases h1
 ·exact h h2
 ·exact Rat.not_lt.2 h3 h
 exact Rat.not_lt.2 h4 h
theorem Fe {l:List Nat}(h1:iF 37 l=true) (h2:fB (cS 37 l) 4=0) (h3:¬(dE (cS 37 l) 4)<0) (h4:¬((100:Int):Rat)<(dE (cS 37 l) 4)):eU l=0:=if_pos ⟨h1,h2,Rat.not_lt.1 h3,Rat.not_lt.1 h4⟩
theorem GM {l:List Nat}(h:(wh (aG l)).length+(pl (aG l)).length≤40):Sz 41 (sR l):=by
 have h1:=Fc (Ng (aG l))
 rw[List.length_append]at h1
 have h2:=zX (pl (aG l)).length
 have h3:0<10^(pl (aG l)).length:=Nat.pow_pos (by omega)
 have h5:=iQ (a:=bG (dD l) (bT (wh (aG l)++pl (aG l)))) (b:=((10^(pl (aG l)).length:Nat):Int)) (L:=41) (M:=41) (by omega) (by unfold mL;cases dD l <;> simp only[bG,if_true,if_false,Bool.false_eq_true,Int.natAbs_neg,Int.natAbs_natCast] <;> omega) (by unfold mL;rw[Int.natAbs_natCast];omega)
 exact⟨h5.1,h5.2⟩
theorem Ff (l:List Nat) (m:Nat):Sz 41 (dE l m):=by
 unfold dE
 split
 ·rename_i h
  refine GM ?_
  unfold fB at h
  split at h
  ·split at h
   ·cases h
   omega
  cases h
 exact(cB (z:=0) (by omega) (by omega)).mono (by omega)
theorem uY {l:List Nat}(hl:Lim 256 l) (hn:l.length≤1000000):aE false Tryz.prog 10 [] [.one (tv (.string (aC l)))] (aN (.tup [qF (.of (dX l)),.one (tv (.int .i64 (eU l)))])):=by
 refine bF Tryz.func10 rfl Tryz.ntmps10 rfl aA rfl fun N9 w9 c0 h0=>?_
 have hX:Sz 68719476736 (dE (cS 37 l) 4):=(Ff _ 4).mono (by omega)
 refine sq ?_;refine rl ?_;refine al 0 ?_;refine o1 ?_;refine nl ?_;refine sq ?_;refine rl ?_;refine o1 ?_
 refine ca (Ei hl (by omega)) QE ⟨a1 rfl,a1 rfl,rfl⟩ (.tup [.one (tv (.string (aC (cS 37 l)))),.one (tv (.bool (iF 37 l)))]) ?_
 (iterate 5 refine o1 ?_);refine nl ?_;refine sq ?_;refine rl ?_;refine o1 ?_
 refine ca (zY (l:=(cS 37 l)) (m:=4) (Eb hl) (Nat.le_trans Ec hn)) Vb ⟨a1 rfl,a1 rfl,rfl⟩ (.tup [qF (.of (dE (cS 37 l) 4)),.one (tv (.int .i64 (fB (cS 37 l) 4)))]) ?_
 (iterate 3 refine o1 ?_);refine al 1 ?_;refine st ?_;refine o1 ?_;refine nl ?_;refine sq ?_;refine sq ?_;refine rd [0,1] (fun i=>[].contains i) mixed ?_
 refine dv 0 ?_;refine WD.splitb (t:=18) rfl (fun h1=>?_) (fun h1=>?_)
 ·refine dv 1 ?_;refine dv 2 ?_;refine dv 3 ?_;refine dv 4 ?_;refine dv 5 ?_;refine dv 6 ?_;refine WD.split (t:=24) rfl rfl (fun h2=>?_) (fun h2=>?_)
  ·refine dH 7 ?_;refine dH 8 ?_;refine dH 9 ?_;refine dv 10 ?_;refine dv 11 ?_;refine dH 12 ?_;refine dH 13 ?_;refine dH 14 ?_;refine dH 15 ?_;refine dv 16 ?_;refine aU ?_
   refine fX rfl ?_;refine sq ?_;refine rl ?_;refine ca (eB (z:=0) (by omega) (by omega)) jL ⟨a1 rfl,rfl⟩ (qF (.of ((0:Int):Rat))) ?_
   refine st ?_;refine o1 ?_;refine nl ?_;refine rt ?_;have he:eU l=60:=kT (.inr (.inl (by omega)))
   have hq:dX l=((0:Int):Rat):=if_neg (by rw[he];decide)
   exact en (.inl rfl) rfl (dB (.cons (.agg (.cons (.id rfl) (.cons (.id rfl) (.cons (.id rfl) (.cons (.id rfl) .nil))))) (.cons (aO _) .nil))) (by decide) (fun h=>by cases h) (by rw[he,hq];rfl)
  refine aW 7 ?_;refine aJ 8 rfl (Qh (Qn.of (p:=(dE (cS 37 l) 4)) hX)) GN ⟨aB rfl,rfl⟩ (.one (tv (.int .i64 (dE (cS 37 l) 4).num.sign))) ?_;refine df 9 ?_;refine df 10 ?_
  refine df 11 ?_;refine WD.split (t:=29) rfl rfl (fun h3=>?_) (fun h3=>?_)
  ·refine dH 12 ?_;refine dH 13 ?_;refine dH 14 ?_;refine dH 15 ?_;refine df 16 ?_;refine aU ?_;refine fX rfl ?_;refine sq ?_;refine rl ?_
   refine ca (eB (z:=0) (by omega) (by omega)) jL ⟨a1 rfl,rfl⟩ (qF (.of ((0:Int):Rat))) ?_
   refine st ?_;refine o1 ?_;refine nl ?_;refine rt ?_;have he:eU l=60:=kT (.inr (.inr (.inl (iI.1 (Int.sign_neg_iff.1 h3)))))
   have hq:dX l=((0:Int):Rat):=if_neg (by rw[he];decide)
   exact en (.inl rfl) rfl (dB (.cons (.agg (.cons (.id rfl) (.cons (.id rfl) (.cons (.id rfl) (.cons (.id rfl) .nil))))) (.cons (aO _) .nil))) (by decide) (fun h=>by cases h) (by rw[he,hq];rfl)
  refine aW 12 ?_;refine aJ 13 rfl (eB (z:=100) (by omega) (by omega)) jL ⟨a1 rfl,rfl⟩ (qF (.of ((100:Int):Rat))) ?_
  refine aJ 14 rfl (Nc (Qn.of (p:=(dE (cS 37 l) 4)) hX) (Qn.of (p:=((100:Int):Rat)) (cB (by omega) (by omega)))) zZ ⟨aB rfl,aB rfl,rfl⟩ (.one (tv (.int .i64 ((dE (cS 37 l) 4)-((100:Int):Rat)).num.sign))) ?_
  refine df 15 ?_;refine df 16 ?_;refine aU ?_;refine bR rfl (fun h4=>?_) (fun h4=>?_)
  ·refine sq ?_;refine rl ?_;refine ca (eB (z:=0) (by omega) (by omega)) jL ⟨a1 rfl,rfl⟩ (qF (.of ((0:Int):Rat))) ?_
   refine st ?_;refine o1 ?_;refine nl ?_;refine rt ?_;have he:eU l=60:=kT (.inr (.inr (.inr (Yn h4))))
   have hq:dX l=((0:Int):Rat):=if_neg (by rw[he];decide)
   exact en (.inl rfl) rfl (dB (.cons (.agg (.cons (.id rfl) (.cons (.id rfl) (.cons (.id rfl) (.cons (.id rfl) .nil))))) (.cons (aO _) .nil))) (by decide) (fun h=>by cases h) (by rw[he,hq];rfl)
  refine sk ?_;refine sq ?_;refine rd [0] (fun i=>[].contains i) mixed ?_
  refine WO.two (i:=0) (j:=1) (by kernel_rfl) ?_ ?_
  ·refine eO 0 ?_;refine aJ 1 rfl (eB (z:=100) (by omega) (by omega)) jL ⟨a1 rfl,rfl⟩ (qF (.of ((100:Int):Rat))) ?_
   refine aJ 2 rfl (Yl (Qn.of (p:=(dE (cS 37 l) 4)) hX) (Qn.of (p:=((100:Int):Rat)) (cB (by omega) (by omega)))) GO ⟨aB rfl,aB rfl,rfl⟩ (.tup [qF (.of ((dE (cS 37 l) 4)/((100:Int):Rat))),.one (tv (.int .i64 (if((100:Int):Rat)=0 then 20 else 0)))]) ?_
   refine df 3 ?_;refine df 4 ?_;refine df 5 ?_;refine aS 6 (by kernel_rfl) rfl rfl aA rfl rfl rfl rfl ⟨rfl,trivial⟩ ?_
   refine aU ?_;refine sq ?_;refine rl ?_;refine ld ?_;refine st ?_;refine o1 ?_;refine nl ?_;refine rt ?_
   have he:eU l=0:=Fe h1 (by omega) (fun h9=>h3 (Int.sign_neg_iff.2 (iI.2 h9))) (fun h9=>h4 (Fg h9))
   have hq:dX l=(dE (cS 37 l) 4)/((100:Int):Rat):=if_pos he
   exact en (.inl rfl) rfl (dB (.cons (.agg (.cons (.id rfl) (.cons (.id rfl) (.cons (.id rfl) (.cons (.id rfl) .nil))))) (.cons (aO _) .nil))) (by decide) (fun h=>by cases h) (by rw[he,hq];rfl)
  refine cU 1 rfl (eB (z:=100) (by omega) (by omega)) jL ⟨a1 rfl,rfl⟩ (qF (.of ((100:Int):Rat))) ?_
  refine WO.one (by kernel_rfl) (eO 0 ?_)
  refine aJ 2 rfl (Yl (Qn.of (p:=(dE (cS 37 l) 4)) hX) (Qn.of (p:=((100:Int):Rat)) (cB (by omega) (by omega)))) GO ⟨aB rfl,aB rfl,rfl⟩ (.tup [qF (.of ((dE (cS 37 l) 4)/((100:Int):Rat))),.one (tv (.int .i64 (if((100:Int):Rat)=0 then 20 else 0)))]) ?_
  refine df 3 ?_;refine df 4 ?_;refine df 5 ?_;refine aS 6 (by kernel_rfl) rfl rfl aA rfl rfl rfl rfl ⟨rfl,trivial⟩ ?_
  refine aU ?_;refine sq ?_;refine rl ?_;refine ld ?_;refine st ?_;refine o1 ?_;refine nl ?_;refine rt ?_
  have he:eU l=0:=Fe h1 (by omega) (fun h9=>h3 (Int.sign_neg_iff.2 (iI.2 h9))) (fun h9=>h4 (Fg h9))
  have hq:dX l=(dE (cS 37 l) 4)/((100:Int):Rat):=if_pos he
  exact en (.inl rfl) rfl (dB (.cons (.agg (.cons (.id rfl) (.cons (.id rfl) (.cons (.id rfl) (.cons (.id rfl) .nil))))) (.cons (aO _) .nil))) (by decide) (fun h=>by cases h) (by rw[he,hq];rfl)
 refine dv 1 ?_;refine dv 2 ?_;refine dH 3 ?_;refine dH 4 ?_;refine dv 5 ?_;refine dv 6 ?_;refine dH 7 ?_;refine dH 8 ?_;refine dH 9 ?_;refine dv 10 ?_;refine dv 11 ?_
 refine dH 12 ?_;refine dH 13 ?_;refine dH 14 ?_;refine dH 15 ?_;refine dv 16 ?_;refine aU ?_;refine fX rfl ?_;refine sq ?_;refine rl ?_
 refine ca (eB (z:=0) (by omega) (by omega)) jL ⟨a1 rfl,rfl⟩ (qF (.of ((0:Int):Rat))) ?_
 refine st ?_;refine o1 ?_;refine nl ?_;refine rt ?_;have he:eU l=60:=kT (.inl h1)
 have hq:dX l=((0:Int):Rat):=if_neg (by rw[he];decide)
 exact en (.inl rfl) rfl (dB (.cons (.agg (.cons (.id rfl) (.cons (.id rfl) (.cons (.id rfl) (.cons (.id rfl) .nil))))) (.cons (aO _) .nil))) (by decide) (fun h=>by cases h) (by rw[he,hq];rfl)
theorem Bq {P:Program}{w w':World}{t t2 ty e:TypeId}{ii:TypeInfo}{z bb o n cp m c q:Nat}{A:Option Addr}{cells:List Value}(hm:Nat.min m n=q) (hu:P.underlying t=some (.slice e)) (hi:P.info? e=some ii) (hsz:ii.size=z)
  (hl:(Builtin.firstCells z q (.slice A m c)).run P w=.ok cells.toArray w) (hst:(storeCells ⟨bb,o,none⟩ cells).run P w=.ok () w'):
  (Builtin.copy_ #[t,t2] ty #[.slice (some ⟨bb,o,none⟩) n cp,.slice A m c]).run P w=.ok (.int .i64 (q:Int)) w':=by
 simp[Builtin.copy_,run_underlying hu,Builtin.lenOf,sizeOf,typeInfo,hi,hsz,hm,hl,hst]
 rfl
theorem Qr {P:Program}{w:World}{t t2 ty e:TypeId}{ii:TypeInfo}{z m c q:Nat}{A:Option Addr}{cells:Array Value}(hm:Nat.min m 0=q) (hu:P.underlying t=some (.slice e)) (hi:P.info? e=some ii) (hsz:ii.size=z)
  (hl:(Builtin.firstCells z q (.slice A m c)).run P w=.ok cells w):
  (Builtin.copy_ #[t,t2] ty #[.slice none 0 0,.slice A m c]).run P w=.ok (.int .i64 (q:Int)) w:=by
 obtain rfl:q=0:=hm.symm.trans (Nat.min_zero m)
 simp[Builtin.copy_,run_underlying hu,Builtin.lenOf,sizeOf,typeInfo,hi,hsz]
 rw[hl]
 rfl
theorem Vc {P:Program}{w:World}{B z m c nn:Nat}{A:Option Addr}{us:List Value}(h:Rd w B z A m c us) (hn:nn≤m):(Builtin.firstCells z nn (.slice A m c)).run P w=.ok (us.take (nn*z)).toArray w:=by
 have hl:(us.take (nn*z)).length=nn*z:=by rw[List.length_take,h.len];exact Nat.min_eq_left (Nat.mul_le_mul_right z hn)
 cases A with
 | none=>
  have h0:m=0:=by
   rcases Nat.eq_zero_or_pos m with h0 | h0
   ·exact h0
   obtain⟨ad,e,_⟩:=h.cell h0
   cases e
  have:nn=0:=by omega
  subst this
  simp[Builtin.firstCells]
 | some ad=>
  have key:=run_loadCells_list (P:=P) w ad (us.take (nn*z)) ?_
  ·rw[hl]at key
   exact key
  intro j v hj
  have hm:0<m:=by
   rcases Nat.eq_zero_or_pos m with h0 | h0
   ·subst h0
    have h1:=h.len
    have h2:us=[]:=List.eq_nil_of_length_eq_zero (by simpa using h1)
    rw[h2]at hj
    simp at hj
   exact h0
  obtain⟨ad',e,_,h3⟩:=h.cell hm
  injection e with e
  subst e
  rw[List.getElem?_take]at hj
  split at hj
  ·exact h3 j v hj
  cases hj
theorem Fh:∀{l:List AV}(k:Nat),eG l=true→eG (l.take k)=true
 | [],k,_=>by rw[List.take_nil];rfl
 | _::_,0,_=>rfl
 | a::l,k+1,h=>by
  simp only[eG,Bool.and_eq_true]at h
  simp only[List.take_succ_cons,eG,Bool.and_eq_true]
  exact⟨h.1,Fh k h.2⟩
theorem yC:∀{l:List AV}(k:Nat),cL l=true→cL (l.take k)=true
 | [],k,_=>by rw[List.take_nil];rfl
 | _::_,0,_=>rfl
 | a::l,k+1,h=>by
  simp only[cL,Bool.and_eq_true]at h
  simp only[List.take_succ_cons,cL,Bool.and_eq_true]
  exact⟨h.1,yC k h.2⟩
section
variable {x:Cx}{g:Nat→FV}{ob:List (Option Ob)}{T:List (Nat×TI)}{d:Nat}{ty:TypeId}{pos:String}{af:Array Edge}{gd:Option (Nat×Bool)}{Q:Post}{ops:Array Oper}{rest:List Oper}
theorem Jt (hT:bQ x.P T){t t2 e z by_ n m k o nn:Nat}{zz:Value}{ti:Bool}{ts0:Nat}{z0:List Value}{a b:Operand}{bv:AV}{bo:Ob}{l' news:List AV}(ht:bB T t=some ⟨ti,ts0,z0,.sl e z by_ zz⟩) (ha:lk x.n g a=.one (.sl k o n)) (ho:bU ob k=some bo)
  (hb:lk x.n g b=.one bv) (hs:SrcA ob z bv m news) (hrd:eG news=true) (hlo:cL news=true) (hnn:min m n=nn) (hle:o+nn*z≤bo.l.length) (hput:cQ bo.l o (news.take (nn*z))=l'):
  OS x ⟨some d,.call ⟨.builtin .copy, #[a,b], #[t,t2]⟩,ty,pos,af,gd⟩ g ob [k] (fun g' ob2=>g'=aZ g d (.one (tv (.int .i64 (nn:Int))))∧ob2=ob.set k (some ⟨bo.t,bo.z,l'⟩)):=by
 subst hput hnn
 obtain⟨ii,hu,hi,hsz⟩:=(cG hT ht).2.2.2.1
 intro cs ts W hR K Q kk
 have hk:=cT ho
 have hp:=hR.lk a
 rw[ha]at hp
 simp only[bE,bO,AR]at hp
 have hbv:=hR.lk b
 rw[hb]at hbv
 obtain⟨A,c,us,e2,hrd',har⟩:=hs.ok hrd hR hbv
 have hone:=mN har hlo
 have hul:us.length=news.length:=eT har
 have hfst:=Vc (P:=x.P) hrd' (Nat.min_le_left m n)
 have hfin:∀cs' W',(Builtin.copy_ #[t,t2] ty #[Act.eval ⟨ts,[]⟩ a,.slice A m c]).run x.P W=.ok (.int .i64 ((min m n:Nat):Int)) W'→RelC x g (ob.set k (some ⟨bo.t,bo.z,cQ bo.l o (news.take (min m n*z))⟩)) cs' ts W'→
   (∀d,Aft [k] d ob cs ts W (ob.set k (some ⟨bo.t,bo.z,cQ bo.l o (news.take (min m n*z))⟩)) cs' ts W')→Oper.wp x.P ⟨some d,.call ⟨.builtin .copy, #[a,b], #[t,t2]⟩,ty,pos,af,gd⟩ ⟨ts,[]⟩ W K Q:=by
  intro cs' W' hrun m1 m2
  have hrun':(execOp (Act.eval ⟨ts,[]⟩) ⟨some d,.call ⟨.builtin .copy, #[a,b], #[t,t2]⟩,ty,pos,af,gd⟩).run x.P W=.ok (.value (.int .i64 ((min m n:Nat):Int))) W':=by
   simp only[execOp,resolve,invoke,builtin,Sem.run_bind,Sem.run_pure,Result.andThen_ok,List.map_toArray,List.map_cons,List.map_nil,e2,hrun]
  refine dN hrun' ?_
  obtain⟨q1,q2,q3,q4,q5,q6⟩:=m2 (some d)
  exact kk _ _ _ _ _ ⟨rfl,rfl⟩ (m1.put d (eV (by simp only[tv,AR,FR]))) ⟨q1,q2,q3,q4,q5,fun i hi=>Array.getElem?_setIfInBounds_ne (fun e=>hi (by rw[e]))⟩
 cases hbb:(co cs k).b with
 | none=>
  rw[hbb]at hp
  obtain⟨_,h1,h2,h3⟩:=hp
  subst h1 h2
  have e0:cQ bo.l 0 (news.take (min m 0*z))=bo.l:=by simp[cQ]
  have e1:(⟨bo.t,bo.z,cQ bo.l 0 (news.take (min m 0*z))⟩:Ob)=bo:=by rw[e0]
  have e3:ob.set k (some bo)=ob:=by
   apply List.ext_getElem?
   intro j
   rw[List.getElem?_set]
   split
   ·rename_i h
    subst h
    rw[hk]
    simp
    exact(List.getElem?_eq_some_iff.1 hk).1
   rfl
  refine hfin cs W ?_ (by rw[e1,e3];exact hR) (fun d=>by rw[e1,e3];exact⟨.refl,fun _ _ _=>rfl,Nat.le_refl _,fun _ _ _=>rfl,fun _ h=>.inl h,fun _ _=>rfl⟩)
  rw[h3]
  exact Qr rfl hu hi hsz hfst
 | some bb=>
  rw[hbb]at hp
  obtain⟨_,o',cp,h1,_,_,h2,_⟩:=hp
  have hA':ARL W (x.fr W ob cs) cs (news.take (min m n*z)) (us.take (min m n*z)):=oC _ har
  have hlt:(news.take (min m n*z)).length=min m n*z:=by
   rw[List.length_take,←hul,hrd'.len]
   exact Nat.min_eq_left (Nat.mul_le_mul_right z (Nat.min_le_left m n))
  obtain⟨W',c',hst,m1,m2⟩:=hR.over hk hbb hA' (Fh _ hrd) (yC _ hlo) (by rw[hlt];exact hle)
  rcases Nat.eq_zero_or_pos (min m n)with h0 | h0
  ·-- nothing is written
   have hW:W'=W:=by
    rw[h0,Nat.zero_mul,List.take_zero]at hst
    simp[storeCells]at hst
    exact hst.symm
   subst hW
   refine hfin _ _ ?_ m1 m2
   rw[h1]
   refine Bq rfl hu hi hsz hfst ?_
   rw[h0,Nat.zero_mul,List.take_zero]
   simp[storeCells]
  obtain rfl:=h2 (.inl (by omega))
  refine hfin _ _ ?_ m1 m2
  rw[h1]
  exact Bq rfl hu hi hsz hfst hst
theorem GP {t e by_ k m:Nat}{zz:Value}{ti:Bool}{ts0:Nat}{z0:List Value}{k1 k2:IntKind}{a b:Operand}(hT:bQ x.P T) (ht:bB T t=some ⟨ti,ts0,z0,.sl e 4 by_ zz⟩) (ha:lk x.n g a=.one (tv (.int k1 (m:Int)))) (hb:lk x.n g b=.one (tv (.int k2 (m:Int)))) (hby:by_≤128) (hm:m≤1000000) (hk:dT ob k=true):
  OS x ⟨some d,.makeSlice t a b,ty,pos,af,gd⟩ g ob [] (fun g' ob2=>g'=aZ g d (.one (.sl k 0 m))∧∃us:List Value,us.length=m*4∧ob2=ob++[some ⟨e,4,us.map tv⟩]):=by
 obtain⟨_,hel⟩:=(cG hT ht).2.2.2
 obtain⟨hu,i,hi,hz,hsize,hby',hzs,hsz⟩:=hel
 subst hby'
 have hk:=Nat.eq_of_beq_eq_true hk
 subst hk
 intro cs ts W hR K Q' kk'
 have e1:=hR.lk a
 rw[ha]at e1
 have e1:=aT e1
 have e2:=hR.lk b
 rw[hb]at e2
 have e2:=aT e2
 have hmul:i.bytes*m≤128*1000000:=Nat.mul_le_mul hby hm
 obtain⟨w',hrun,h1,h2⟩:=run_make_full (P:=x.P) W 0 t e i zz 4 hu hi hz hsize k1 k2 m (by omega) (by unfold maxLen;omega) (Nat.zero_le _)
 have hrun':(execOp (Act.eval ⟨ts,[]⟩) ⟨some d,.makeSlice t a b,ty,pos,af,gd⟩).run x.P W=.ok (.value (.slice (some ⟨W.heap.size,0,none⟩) m m)) w':=by
  simp[execOp,e1,e2,hrun]
 have hul:(madeCells zz.cells (m*4)).toList.length=m*4:=by simp[madeCells]
 generalize (madeCells zz.cells (m*4)).toList=us at h1 hul
 have hbl:Below W.heap.size W w':=(Below.refl _ _).grown h2 (Nat.le_refl _) (fun k hk=>by cases hk)
 rcases h1.2 with⟨hh,_⟩ | ⟨g1,cap,cur,hv,_,hg,hnc,hcm,hcs,htake⟩
 ·injection hh with h3;cases h3
 injection hv with q1 q2 q3
 injection q1 with q1
 injection q1 with q1
 subst q1 q3
 have hlt:W.heap.size<w'.heap.size:=(Array.getElem?_eq_some_iff.1 hg).1
 have hcur:cur.toList=us:=by
  have h9:cur.toList.length=m*4:=by simpa using hcs
  rw[←htake,List.take_of_length_le (by omega)]
 have hS:∀b∈(aP (some ⟨e,4,us.map tv⟩) ⟨some W.heap.size,m,us.map .w⟩).S,W.heap.size≤b∧b<w'.heap.size:=by
  intro b hb
  simp[aP,jD]at hb
  subst hb
  exact⟨Nat.le_refl _,hlt⟩
 have hown:∀b∈cC (ob++[some ⟨e,4,us.map tv⟩]) (cs++[⟨some W.heap.size,m,us.map .w⟩]),b∈cC ob cs∨W.heap.size≤b:=by
  intro b hb
  unfold cC aK at hb
  rw[List.zipWith_append hR.len,List.flatMap_append,List.mem_append]at hb
  rcases hb with hb | hb
  ·exact .inl hb
  exact .inr (hS b (by simpa using hb)).1
 have m1:RelC x g (ob++[some ⟨e,4,us.map tv⟩]) (cs++[⟨some W.heap.size,m,us.map .w⟩]) ts w':=by
  refine hR.push hbl _ _ ?_ hS (by simp[aP,jD]) ?_ (fun e=>by cases e)
  ·simp only[aP,oY]
   refine⟨⟨[],?_,by simp[hul]⟩,oZ _,hcm⟩
   rw[List.append_nil,hg,←hcur]
  exact oD (jS _) (qE _)
 refine dN hrun' (kk' _ _ _ _ _ ⟨rfl,us,hul,rfl⟩ (m1.put d ?_) ((Aft.mk .app (fun k _ hk=>mO hk) hbl.size (fun b hlt _=>hbl.block b hlt) hown (fun _ _=>rfl):Aft [] (some d) ob cs ts W _ _ ts w').then_put _))
 refine eV ?_
 simp only[AR]
 rw[hR.len,fL]
 exact⟨by simp[hR.len],0,m,rfl,Nat.le_refl _,hcm,fun _=>rfl,fun _=>rfl⟩
theorem SZ {t e by_ m:Nat}{zz:Value}{ti:Bool}{ts0:Nat}{z0:List Value}{k1 k2:IntKind}{a b:Operand}(key:Nat) (hm:m≤1000000) (k:∀us:List Value,us.length=m*4→WL x ops rest (aZ g d (.one (.sl key 0 m))) (ob++[some ⟨e,4,us.map tv⟩]) Q) (hT:bQ x.P ttab:=by exact aA) (hw:aY ops x.n g gd=some true:=by rfl)
  (ht:bB ttab t=some ⟨ti,ts0,z0,.sl e 4 by_ zz⟩:=by rfl) (ha:lk x.n g a=.one (tv (.int k1 (m:Int))):=by rfl) (hb:lk x.n g b=.one (tv (.int k2 (m:Int))):=by rfl) (hby:by_≤128:=by decide) (hk:dT ob key=true:=by rfl):WL x ops (⟨some d,.makeSlice t a b,ty,pos,af,gd⟩::rest) g ob Q:=by
 exact fM (GP hT ht ha hb hby hm hk) hw (by rintro _ _ ⟨rfl,us,hus,rfl⟩;exact k us hus)
theorem TA {t t2 e z by_ n m k o nn:Nat}{zz:Value}{ti:Bool}{ts0:Nat}{z0:List Value}{a b:Operand}{bv:AV}{bo:Ob}{l' news:List AV}(hs:SrcA ob z bv m news) (hrd:eG news=true) (hlo:cL news=true) (hnn:min m n=nn) (hle:o+nn*z≤bo.l.length) (hput:cQ bo.l o (news.take (nn*z))=l')
  (kk:WL x ops rest (aZ g d (.one (tv (.int .i64 (nn:Int))))) (ob.set k (some ⟨bo.t,bo.z,l'⟩)) Q) (hT:bQ x.P ttab:=by exact aA) (hw:aY ops x.n g gd=some true:=by rfl) (ht:bB ttab t=some ⟨ti,ts0,z0,.sl e z by_ zz⟩:=by rfl) (ha:lk x.n g a=.one (.sl k o n):=by rfl) (ho:bU ob k=some bo:=by rfl)
  (hb:lk x.n g b=.one bv:=by rfl):WL x ops (⟨some d,.call ⟨.builtin .copy, #[a,b], #[t,t2]⟩,ty,pos,af,gd⟩::rest) g ob Q:=
 fM (Jt hT ht ha ho hb hs hrd hlo hnn hle hput) hw (by rintro _ _ ⟨rfl,rfl⟩;exact kk)
theorem QF {late:Nat→Bool}{fr:List Nat}{fuel:Nat}{listed:Array Bool}{t t2 e z by_ n m k o nn:Nat}{zz:Value}{ti:Bool}{ts0:Nat}{z0:List Value}{a b:Operand}{bv:AV}{bo:Ob}{l' news:List AV}(i:Nat) (hs:SrcA ob z bv m news) (hrd:eG news=true) (hlo:cL news=true) (hnn:min m n=nn) (hle:o+nn*z≤bo.l.length) (hput:cQ bo.l o (news.take (nn*z))=l')
  (kk:WD x ops Q late [] (d::fr) true fuel (listed.setIfInBounds i true) (aZ g d (.one (tv (.int .i64 (nn:Int))))) (ob.set k (some ⟨bo.t,bo.z,l'⟩))) (hT:bQ x.P ttab:=by exact aA) (hr:Region.ready .any ops listed=[i]:=by kernel_rfl) (hi:ops[i]? =some ⟨some d,.call ⟨.builtin .copy, #[a,b], #[t,t2]⟩,ty,pos,af,gd⟩:=by rfl) (hw:aY ops x.n g gd=some true:=by rfl)
  (ht:bB ttab t=some ⟨ti,ts0,z0,.sl e z by_ zz⟩:=by rfl) (ha:lk x.n g a=.one (.sl k o n):=by rfl) (ho:bU ob k=some bo:=by rfl) (hb:lk x.n g b=.one bv:=by rfl):WD x ops Q late [] fr true (fuel+1) listed g ob:=
 Yo i hr hi rfl hw (Jt hT ht ha ho hb hs hrd hlo hnn hle hput) (fun k h=>by cases h) (by rintro _ _ ⟨rfl,rfl⟩;exact⟨⟨_,rfl⟩,fun _ h=>by cases h⟩) (by rintro _ _ ⟨rfl,rfl⟩;exact kk)
end
section
variable {α:Type}{f:α→List Tr}{z k o:Nat}{xs:List α}{x x':α}{us:List Tr}
end
section
variable {x:Cx}{g:Nat→FV}{ob:List (Option Ob)}{ws:List Zi}{z:Zi}{i j k1 e key:Nat}{y a b:AV}
end
def fF (q:Rat):List Tr:=(Fr4.of q).tr false
theorem nL (q:Rat):(fF q).length=4:=rfl
theorem BO (l:List Rat):l.flatMap fF=(qD l).flatMap (Fr4.tr false):=by
 unfold qD
 rw[List.flatMap_map]
 rfl
theorem GQ {L:Nat}{l:List Rat}(h:∀q∈l,Sz L q) (hL:L≤68719476736):∀x∈qD l,x.ok:=fun x hx=>by
 obtain⟨q,hq,rfl⟩:=List.mem_map.1 hx
 exact(Qn.of (h q hq) hL).1
theorem GR {L:Nat}{l:List Rat}(h:∀q∈l,Sz L q):∀x∈qD l,Sz L x.q:=fun x hx=>by
 obtain⟨q,hq,rfl⟩:=List.mem_map.1 hx
 rw[Fr4.q_of]
 exact h q hq
section
variable {x:Cx}{g:Nat→FV}{ob:List (Option Ob)}
theorem PL {i k t z n:Nat}{l:List Tr}{fv fv':FV}(t':Nat) (hi:Nat.blt i x.n=true) (hg:g i=fv) (ho:bU ob k=some ⟨t,z,l.map .t⟩) (hz:l.length=n*z) (hf:FzF (.sl k 0 n) (.s false t' z n l) fv fv'):Sub x g ob (aZ g i fv') (ob.set k none):=Ju hi hg ho hf (Fi t' ho hz)
end
theorem GS {k:Int}:aE true Tryz.prog 137 [] [kF k] (aN (.one (tv (.bool (decide (k%2=0)))))):=by
 refine bF Tryz.func137 rfl Tryz.ntmps137 rfl aA rfl fun N9 w9 c0 h0=>?_
 refine sq ?_;refine rl ?_;refine bx 0 ?_;refine o1 ?_;refine nl ?_;refine sq ?_;refine rl ?_;refine o1 ?_;refine ld ?_;(iterate 3 refine o1 ?_)
 refine WL.split (t:=7) rfl (fun h1=>?_) (fun h1=>?_)
 ·(iterate 6 refine cH ?_);refine o1 ?_;refine o1 ?_;refine nl ?_;refine rt ?_;have hk0:k.natAbs=0:=(dM (B:=4294967296) (by omega)).1 (List.eq_nil_of_length_eq_zero (by omega))
  exact nX (.inl rfl) rfl ((decide_eq_true (show k%2=0 by omega)).symm)
 have hk0:k.natAbs≠0:=Nat.pos_iff_ne_zero.1 (rH (B:=4294967296) (u:=k.natAbs) (by omega))
 have hdp:=kI (B:=4294967296) (n:=k.natAbs) (by omega) hk0
 have hn0:nth (dg 4294967296 k.natAbs) 0=k.natAbs%4294967296:=by rw[hdp];rfl
 refine o1 ?_;refine ld ?_;refine o1 ?_;refine kR ([.v (.int .u32 ((nth (dg 4294967296 (k).natAbs) (0):Nat):Int))]) (mP (dg 4294967296 (k).natAbs) (k:=0) (by omega)) ?_
 refine o1 ?_;refine WL.cast (t:=12) (u':=.int .u32 (((nth (dg 4294967296 (k).natAbs) (0))%2:Nat):Int)) rfl (aI (fK _ 2)) ?_;(iterate 3 refine o1 ?_);refine nl ?_;refine rt ?_
 exact nX (.inl rfl) rfl (decide_eq_decide.2 (show _↔k%2=0 by rw[hn0];omega))
theorem Qs (xs:List Nat):((aR xs).map AV.t).take (aR xs).length=(aR xs).map .t:=List.take_of_length_le (by simp)
def tO (f r d:Int):Bool:=decide (d<2*r)||(decide (d=2*r)&& !decide (f%2=0))
theorem QG {f r d:Int}(h:0<(r+r-d).sign):true=tO f r d:=by
 have:=Int.sign_pos_iff.1 h
 unfold tO
 rw[decide_eq_true (show d<2*r by omega)]
 rfl
theorem QH {f r d:Int}(h:¬0<(r+r-d).sign) (h2:¬(r+r-d).sign=0):false=tO f r d:=by
 have h3:¬0<r+r-d:=fun h9=>h (Int.sign_pos_iff.2 h9)
 have h4:¬r+r-d=0:=fun h9=>h2 (Int.sign_eq_zero_iff_zero.2 h9)
 unfold tO
 rw[decide_eq_false (show¬d<2*r by omega),decide_eq_false (show¬d=2*r by omega)]
 rfl
theorem QI {f r d:Int}(h:¬0<(r+r-d).sign) (h2:(r+r-d).sign=0):(!decide (f%2=0))=tO f r d:=by
 have h4:=Int.sign_eq_zero_iff_zero.1 h2
 unfold tO
 rw[decide_eq_false (show¬d<2*r by omega),decide_eq_true (show d=2*r by omega)]
 rfl
theorem GU {q:Rat}(h:tO (q.num.fdiv (q.den:Int)) (q.num.fmod (q.den:Int)) (q.den:Int)=true):hal q=q.num.fdiv (q.den:Int)+1:=by
 unfold hal
 rw[if_pos]
 unfold tO at h
 simp only[Bool.or_eq_true,Bool.and_eq_true,Bool.not_eq_true',decide_eq_true_eq,decide_eq_false_iff_not]at h
 exact h
theorem GV {q:Rat}(h:tO (q.num.fdiv (q.den:Int)) (q.num.fmod (q.den:Int)) (q.den:Int)=false):hal q=q.num.fdiv (q.den:Int):=by
 unfold hal
 rw[if_neg]
 intro h2
 unfold tO at h
 simp only[Bool.or_eq_false_iff,Bool.and_eq_false_iff,Bool.not_eq_false',decide_eq_true_eq,decide_eq_false_iff_not]at h
 rcases h2 with h2 | ⟨h2,h3⟩
 ·exact h.1 h2
 rcases h.2 with h4 | h4
 ·exact h4 h2
 exact h3 h4
theorem Vd {q:Rat}(h:q.num.fmod (q.den:Int)=0):hal q=q.num.fdiv (q.den:Int):=by
 have hd:(0:Int)<(q.den:Int):=by have:=q.den_pos;omega
 unfold hal
 rw[h,if_neg (by omega)]
theorem BP {k k':Int}{p:Rat}(hs:Sz 68719476736 p) (hk2:(dg 4294967296 (k').natAbs).length≤68719476736):aE false Tryz.prog 136 [⟨115,1,(aR (dg 4294967296 (k).natAbs)).map .t⟩,⟨115,1,(aR (dg 4294967296 (k').natAbs)).map .t⟩] [.agg [tv (.bool (aL (k))),.sl 0 0 (dg 4294967296 (k).natAbs).length],.agg [tv (.bool (aL (k'))),.sl 1 0 (dg 4294967296 (k').natAbs).length],.agg [tv (.bool false),.t (sU false (dg 4294967296 p.den))]] (Rt [⟨115,1,(aR (dg 4294967296 (k).natAbs)).map .t⟩,⟨115,1,(aR (dg 4294967296 (k').natAbs)).map .t⟩] (.one (tv (.bool (tO k k' (p.den:Int)))))):=by
 refine Ez Tryz.func136 rfl Tryz.ntmps136 rfl aA rfl fun N9 M9 w9 c0 h0=>?_
 have hka:(dg 4294967296 (k'+k').natAbs).length≤137438953473:=by have:=eW k' k';omega
 have hs2:=hs.2
 have hkd:(dg 4294967296 (k'+k'-(p.den:Int)).natAbs).length≤300000000000:=by
  have h1:=wL (k'+k') (p.den:Int)
  rw[Int.natAbs_natCast]at h1;omega
 refine sq ?_;refine rl ?_;refine bx 2 ?_;refine bx 3 ?_;refine bx 4 ?_;refine o1 ?_;refine nl ?_;refine sq ?_;refine rd [2,3,4] (fun i=>[5].contains i) mixed ?_
 refine aW 0 ?_;refine aW 1 ?_;refine aW 3 ?_
 refine aJ 2 rfl (Cz (Zg.of (k:=k') (Nat.le_trans hk2 (by omega))) (Zg.of (k:=k') (Nat.le_trans hk2 (by omega)))) Da ⟨Fj rfl (.cons .t (.cons (.sl rfl rfl (Qs _) (aX _)) .nil)),Fj rfl (.cons .t (.cons (.sl rfl rfl (Qs _) (aX _)) .nil)),rfl⟩ (kF (k'+k')) ?_
 refine aJ 4 rfl (Cy (Zg.of (k:=(k'+k')) (Nat.le_trans hka (by omega))) (cJ hs).g hkd) wI ⟨aB rfl,aB rfl,rfl⟩ (.one (tv (.int .i64 ((k'+k')-(p.den:Int)).sign))) ?_
 refine cZ 5 (by kernel_rfl) rfl rfl aA rfl (by trivial) ?_ (fun h=>by first | rfl | cases h)
 refine aU ?_;refine sq ?_;refine rl ?_;(iterate 3 refine o1 ?_);refine WL.split (t:=15) rfl (fun h1=>?_) (fun h1=>?_)
 ·(iterate 7 refine cH ?_);refine o1 ?_;refine o1 ?_;refine nl ?_;refine rt ?_
  exact lG (lent':=[⟨115,1,(aR (dg 4294967296 (k).natAbs)).map .t⟩,⟨115,1,(aR (dg 4294967296 (k').natAbs)).map .t⟩]) (.inl rfl) rfl (aV (aO _)) (by decide) (fun _ h=>by cases h) ⟨⟨rfl,rfl⟩,⟨rfl,rfl⟩,trivial⟩ ⟨rfl,rfl,trivial⟩ ⟨mQ _,mQ _,trivial⟩ (fun h=>by cases h) ⟨rfl,congrArg (fun b=>FV.one (tv (.bool b))) (QG h1)⟩
 (iterate 3 refine o1 ?_);refine WL.split (t:=18) rfl (fun h2=>?_) (fun h2=>?_)
 ·refine ld ?_;refine ca (GS (k:=k)) MH ⟨Fj rfl (.cons .t (.cons (.sl rfl rfl (Qs _) (aX _)) .nil)),rfl⟩ (.one (tv (.bool (decide (k%2=0))))) ?_;(iterate 4 refine o1 ?_)
  refine nl ?_;refine rt ?_
  exact lG (lent':=[⟨115,1,(aR (dg 4294967296 (k).natAbs)).map .t⟩,⟨115,1,(aR (dg 4294967296 (k').natAbs)).map .t⟩]) (.inl rfl) rfl (aV (aO _)) (by decide) (fun _ h=>by cases h) ⟨⟨rfl,rfl⟩,⟨rfl,rfl⟩,trivial⟩ ⟨rfl,rfl,trivial⟩ ⟨mQ _,mQ _,trivial⟩ (fun h=>by cases h) ⟨rfl,congrArg (fun b=>FV.one (tv (.bool b))) (QI h1 h2)⟩
 (iterate 3 refine cH ?_);(iterate 3 refine o1 ?_);refine nl ?_;refine rt ?_
 exact lG (lent':=[⟨115,1,(aR (dg 4294967296 (k).natAbs)).map .t⟩,⟨115,1,(aR (dg 4294967296 (k').natAbs)).map .t⟩]) (.inl rfl) rfl (aV (aO _)) (by decide) (fun _ h=>by cases h) ⟨⟨rfl,rfl⟩,⟨rfl,rfl⟩,trivial⟩ ⟨rfl,rfl,trivial⟩ ⟨mQ _,mQ _,trivial⟩ (fun h=>by cases h) ⟨rfl,congrArg (fun b=>FV.one (tv (.bool b))) (QH h1 h2)⟩
theorem MI {a:Fr4}{p:Rat}(ha:Qn a p):aE true Tryz.prog 135 [] [qF a,.one (.t (.f 136 [] []))] (aN (kO (hal p))):=by
 refine bF Tryz.func135 rfl Tryz.ntmps135 rfl aA rfl fun N9 w9 c0 h0=>?_
 have hfl:(dg 4294967296 ((p.num.fdiv (p.den:Int))).natAbs).length≤68719476736:=by rw[lN];exact Nat.le_trans (tL p) ha.sz.1
 refine sq ?_;refine rl ?_;refine bx 0 ?_;refine al 1 ?_;refine nl ?_;refine sq ?_;refine rl ?_;refine ld ?_;refine gH 2 (BF ha) MJ ⟨aB rfl,rfl⟩ ?_;(iterate 4 refine o1 ?_)
 refine al 4 ?_;refine al 5 ?_;refine al 6 ?_;(iterate 3 refine st ?_);refine nl ?_;refine sq ?_;refine sq ?_;refine rl ?_;refine ld ?_
 refine ca (qA (Zg.of (k:=(p.num.fmod (p.den:Int))) (Nat.le_trans (wN p) (Nat.le_trans ha.sz.2 (by omega))))) zS ⟨Fj rfl (.cons .t (.cons (.sl rfl rfl (Qs _) (aX _)) .nil)),rfl⟩ (.one (tv (.int .i64 ((p.num.fmod (p.den:Int))).sign))) ?_
 refine o1 ?_;refine o1 ?_;refine WL.split (t:=17) rfl (fun h1=>?_) (fun h1=>?_)
 ·refine o1 ?_;(iterate 3 refine ld ?_)
  refine SY 7 [2,3] [.agg [tv (.bool (aL ((p.num.fdiv (p.den:Int))))),.sl 0 0 (dg 4294967296 ((p.num.fdiv (p.den:Int))).natAbs).length],.agg [tv (.bool (aL ((p.num.fmod (p.den:Int))))),.sl 1 0 (dg 4294967296 ((p.num.fmod (p.den:Int))).natAbs).length],.agg [tv (.bool false),.t (sU false (dg 4294967296 p.den))]] rfl (BP (k:=(p.num.fdiv (p.den:Int))) (k':=(p.num.fmod (p.den:Int))) (p:=p) ha.sz (Nat.le_trans (wN p) (Nat.le_trans ha.sz.2 (by omega)))) MK ⟨cV rfl,cV rfl,rfl⟩ ⟨rfl,rfl,rfl,rfl⟩ (ok:=[some ⟨115,1,(aR (dg 4294967296 ((p.num.fdiv (p.den:Int))).natAbs)).map .t⟩,some ⟨115,1,(aR (dg 4294967296 ((p.num.fmod (p.den:Int))).natAbs)).map .t⟩]) ⟨cV rfl,cV rfl,rfl⟩ ?_
  refine o1 ?_;refine nl ?_;refine iL rfl (fun h2=>?_) (fun h2=>?_)
  ·refine sq ?_;refine rd [0,1,4,5,6] (fun i=>[2,3].contains i) mixed ?_
   refine aW 0 ?_;refine aJ 1 rfl (wJ (n:=1) (by omega) (by omega)) wK ⟨a1 rfl,rfl⟩ (kF 1) ?_
   refine oT 7 2 rfl (Cz (Zg.of (k:=(p.num.fdiv (p.den:Int))) (Nat.le_trans hfl (by omega))) (Zg.of (k:=1) (by decide))) Da ⟨Fj rfl (.cons .t (.cons (.sl rfl rfl (Qs _) (aX _)) .nil)),aB rfl,rfl⟩ ?_
   refine dst 3 ?_;refine aU ?_;refine rt ?_
   exact en (.inl rfl) rfl (aV (.agg (.cons (.id rfl) (.cons (.sl (trs:=aR (dg 4294967296 ((p.num.fdiv (p.den:Int))+1).natAbs)) rfl rfl (bL _) (aX _)) .nil)))) (by decide) (fun _=>xW _) (congrArg kO (GU h2).symm)
  refine sk ?_;refine sq ?_;refine rl ?_;refine ld ?_;refine st ?_;refine nl ?_;refine rt ?_
  exact en (.inl rfl) rfl (aV (.agg (.cons (.id rfl) (.cons (.sl (trs:=aR (dg 4294967296 ((p.num.fdiv (p.den:Int))).natAbs)) rfl rfl (bL _) (aX _)) .nil)))) (by decide) (fun _=>xW _) (congrArg kO (GV h2).symm)
 (iterate 5 refine cH ?_);refine o1 ?_;refine nl ?_;refine fW rfl ?_;refine sk ?_;refine sq ?_;refine rl ?_;refine ld ?_;refine st ?_;refine nl ?_;refine rt ?_
 exact en (.inl rfl) rfl (aV (.agg (.cons (.id rfl) (.cons (.sl (trs:=aR (dg 4294967296 ((p.num.fdiv (p.den:Int))).natAbs)) rfl rfl (bL _) (aX _)) .nil)))) (by decide) (fun _=>xW _) (congrArg kO (Vd (Int.sign_eq_zero_iff_zero.1 (Decidable.byContradiction h1))).symm)
theorem GW {a:Fr4}{p:Rat}(ha:Qn a p):aE true Tryz.prog 84 [] [qF a] (aN (kO (hal p))):=by
 refine bF Tryz.func84 rfl Tryz.ntmps84 rfl aA rfl fun N9 w9 c0 h0=>?_
 refine sq ?_;refine rl ?_;refine bx 0 ?_;refine al 1 ?_;refine nl ?_;refine sq ?_;refine rl ?_;refine ld ?_;refine gH 2 (MI ha) ML ⟨aB rfl,a1 rfl,rfl⟩ ?_
 refine st ?_;refine nl ?_;refine rt ?_
 exact en (.inl rfl) rfl (aV (.agg (.cons (.id rfl) (.cons (.sl (trs:=aR (dg 4294967296 (hal p).natAbs)) rfl rfl (bL _) (aX _)) .nil)))) (by decide) (fun _=>xW _) rfl
theorem rz {A:List Tr}{us:List Value}{k:Nat}:(A++(us.map Tr.v).drop k).map AV.t=A.map .t++(us.map tv).drop k:=by
 rw[List.map_append,List.map_drop,List.map_map]
 rfl
theorem rI (q:Rat) (n:Nat):(((List.replicate n q).flatMap fF).map AV.t).length=n*4:=by
 rw[List.length_map,oE nL,List.length_replicate]
theorem GX (q:Rat) (n:Nat):(((List.replicate n q).flatMap fF).map AV.t).length=n*4:=rI q n
theorem QJ (q:Rat) (us:List Value) (c:Nat):cQ (us.map tv) 0 (((fF q).map AV.t).take (min 1 c*4))=((List.replicate (min 1 c) q).flatMap fF++(us.map Tr.v).drop ((min 1 c)*4)).map AV.t:=by
 rw[rz]
 rcases Nat.eq_zero_or_pos c with h | h
 ·subst h
  simp[cQ]
 rw[Nat.min_eq_left h]
 have e:((fF q).map AV.t).take (1*4)=(fF q).map AV.t:=List.take_of_length_le (by rw[List.length_map,nL];omega)
 rw[e]
 unfold cQ
 simp[nL]
theorem Yp (q:Rat) (us:List Value) (n:Nat):((((List.replicate n q).flatMap fF++(us.map Tr.v).drop (n*4)).map AV.t).drop 0).take (n*4)=((List.replicate n q).flatMap fF).map AV.t:=by
 rw[rz]
 rw[List.drop_zero,List.take_append_of_le_length (by rw[rI];omega),List.take_of_length_le (by rw[rI];omega)]
theorem MM (q:Rat) (us:List Value) (n c:Nat) (h:us.length=c*4) (hn:n≤c):0+n*4+min n (c-n)*4≤(((List.replicate n q).flatMap fF++(us.map Tr.v).drop (n*4)).map AV.t).length:=by
 rw[rz]
 rw[List.length_append,rI,List.length_drop,List.length_map,h]
 omega
theorem QK (q:Rat) (us:List Value) (n c:Nat) (h:us.length=c*4) (hn:n≤c):cQ (((List.replicate n q).flatMap fF++(us.map Tr.v).drop (n*4)).map AV.t) (0+n*4) ((((List.replicate n q).flatMap fF).map AV.t).take (min n (c-n)*4))=((List.replicate (n+min n (c-n)) q).flatMap fF++(us.map Tr.v).drop ((n+min n (c-n))*4)).map AV.t:=by
 rw[rz,rz]
 have e:(((List.replicate n q).flatMap fF).map AV.t).take (min n (c-n)*4)=((List.replicate (min n (c-n)) q).flatMap fF).map AV.t:=by
  rw[←List.map_take]
  congr 1
  have h1:List.replicate n q=List.replicate (min n (c-n)) q++List.replicate (n-min n (c-n)) q:=by
   rw[List.replicate_append_replicate]
   congr 1
   omega
  rw[h1,List.flatMap_append,List.take_append_of_le_length (by rw[oE nL,List.length_replicate];omega),List.take_of_length_le (by rw[oE nL,List.length_replicate];omega)]
 rw[e]
 unfold cQ
 rw[Nat.zero_add,List.take_append_of_le_length (by rw[rI];omega),List.take_of_length_le (by rw[rI];omega),rI]
 rw[List.drop_append,rI,List.drop_of_length_le (by rw[rI];omega),List.nil_append,List.drop_drop,←List.map_append,←List.flatMap_append,List.replicate_append_replicate]
 congr 2
 omega
theorem GY (q:Rat) (us:List Value) (n c:Nat) (hn:n=c):((((List.replicate n q).flatMap fF++(us.map Tr.v).drop (n*4)).map AV.t).drop 0).take (c*4)=((List.replicate c q).flatMap fF).map .t:=by
 subst hn
 exact Yp q us n
theorem BQ (q:Rat) (c:Nat):((List.replicate c q).flatMap fF).length=c*4:=by
 rw[oE nL,List.length_replicate]
theorem BR {l m:List AV}(h:eG l=true) (h2:eG m=true):eG (l++m)=true:=by
 induction l with
 | nil=>exact h2
 | cons a l ih=>
  rw[List.cons_append]
  simp only[eG,Bool.and_eq_true]at h⊢
  exact⟨h.1,ih h.2⟩
theorem Yq (q:Rat):∀n:Nat,eG (((List.replicate n q).flatMap fF).map AV.t)=true
 | 0=>rfl
 | n+1=>by
  rw[List.replicate_succ,List.flatMap_cons,List.map_append]
  exact BR rfl (Yq q n)
theorem Ve {l m:List AV}(h:cL l=true) (h2:cL m=true):cL (l++m)=true:=by
 induction l with
 | nil=>exact h2
 | cons a l ih=>
  rw[List.cons_append]
  simp only[cL,Bool.and_eq_true]at h⊢
  exact⟨h.1,ih h.2⟩
theorem Qt (q:Rat):∀n:Nat,cL (((List.replicate n q).flatMap fF).map AV.t)=true
 | 0=>rfl
 | n+1=>by
  rw[List.replicate_succ,List.flatMap_cons,List.map_append]
  exact Ve rfl (Qt q n)
theorem Vf {q:Rat}{c:Nat}(hc:c≤1000):aE false Tryz.prog 83 [] [.one (.t (sQ false (qD [q]))),.one (tv (.int .i64 ((c:Nat):Int)))] (aN (.one (.t (.s true 27 4 c ((List.replicate (c) q).flatMap fF))))):=by
 refine bF Tryz.func83 rfl Tryz.ntmps83 rfl aA rfl fun N9 w9 c0 h0=>?_
 refine sq ?_;refine rl ?_;refine o1 ?_;refine nl ?_;refine sq ?_;refine sq ?_;refine rl ?_;refine o1 ?_;refine o1 ?_;refine nl ?_;refine bR rfl (fun h1=>?_) (fun h1=>?_)
 ·exact absurd h1 (by omega)
 refine sk ?_;refine sq ?_;refine rl ?_;refine o1 ?_;refine o1 ?_;refine WL.cast (t:=14) (u':=.int .i64 ((1:Nat):Int)) rfl rfl ?_;refine o1 ?_
 refine WL.cast (t:=15) (u':=.int .u64 ((1:Nat):Int)) rfl (aI (by omega)) ?_
 refine o1 ?_;refine o1 ?_;refine WL.cast (t:=17) (u':=.int .u64 ((c:Nat):Int)) rfl (aI (by omega)) ?_
 refine ca (GZ (a:=1) (b:=c) (by omega) (by omega)) QL ⟨a1 rfl,a1 rfl,rfl⟩ (.tup [.one (tv (.int .u64 ((1*c/18446744073709551616:Nat):Int))),.one (tv (.int .u64 ((1*c%18446744073709551616:Nat):Int)))]) ?_
 (iterate 5 refine o1 ?_);refine nl ?_;refine sq ?_;refine sq ?_;refine rl ?_;(iterate 3 refine o1 ?_);refine WL.split (t:=23) rfl (fun h2=>?_) (fun h2=>?_)
 ·exact absurd h2 (by omega)
 (iterate 3 refine o1 ?_);refine nl ?_;refine bR rfl (fun h3=>?_) (fun h3=>?_)
 ·exact absurd h3 (by omega)
 refine sk ?_;refine sq ?_;refine rl ?_;refine o1 ?_;refine o1 ?_;refine WL.cast (t:=29) (u':=.int .i64 ((c:Nat):Int)) rfl (aI (by omega)) ?_
 refine SZ (m:=c) 0 (by omega) fun us hus=>?_
 refine o1 ?_;refine nl ?_;refine sq ?_;refine rl ?_;refine o1 ?_;refine o1 ?_
 refine TA (k:=0) (o:=0) (z:=4) (bo:=⟨27,4,us.map tv⟩) (nn:=min 1 c) (l':=(((List.replicate (min 1 c) q).flatMap fF++(us.map Tr.v).drop ((min 1 c)*4)).map AV.t)) (SrcA.fz (m:=1) (l:=fF q)) (by rfl) (by rfl) rfl (by rw[List.length_map,hus];omega) (QJ q us c) ?_
 refine o1 ?_;refine nl ?_;refine sq ?_;refine bl ?_
 refine lp (γ:=Nat) (fun n=>cE [(7,.one (.sl 0 0 c)),(8,.one (tv (.int .i64 ((n:Nat):Int))))]) (fun n=>[(⟨27,4,(((List.replicate (n) q).flatMap fF++(us.map Tr.v).drop ((n)*4)).map AV.t)⟩:Ob)].map some) (fun n=>n≤c∧(0<n∨c=0)) (fun n=>c-n) (min 1 c) ⟨by omega,by omega⟩ (aQ h0 [0] _ _ (by decide) ⟨rfl,rfl,trivial⟩ ⟨cV rfl,rfl⟩) fun n hn=>?_
 refine sq ?_;refine sq ?_;refine rl ?_;(iterate 4 refine o1 ?_);refine nl ?_;refine bR rfl (fun h4=>?_) (fun h4=>?_)
 ·refine sk ?_;refine bl ?_;refine rd [] (fun i=>[9].contains i) mixed ?_
  refine dv 0 ?_;refine dv 1 ?_;refine dv 2 ?_;refine dv 3 ?_;refine dv 4 ?_;refine dv 5 ?_;refine dv 6 ?_
  refine QF 7 (o:=0+n*4) (z:=4) (bo:=⟨27,4,(((List.replicate (n) q).flatMap fF++(us.map Tr.v).drop ((n)*4)).map AV.t)⟩) (nn:=min n (c-n)) (l':=(((List.replicate (n+min n (c-n)) q).flatMap fF++(us.map Tr.v).drop ((n+min n (c-n))*4)).map AV.t)) (SrcA.sl (k:=0) (o:=0) (m:=n) (news:=(((List.replicate (n) q).flatMap fF).map AV.t)) rfl (Yp q us n) (GX q n)) (Yq q n) (Qt q n) rfl (MM q us n c hus (by omega)) (QK q us n c hus (by omega)) ?_
  refine df 8 ?_;refine WD.cast (t:=46) (u':=.int .i64 ((n+min n (c-n):Nat):Int)) rfl (aI (by omega)) ?_
  refine cZ 9 (by kernel_rfl) rfl rfl aA rfl (by trivial) ?_ (fun h=>by first | rfl | cases h)
  refine aU ?_;exact⟨n+min n (c-n),by omega,⟨by omega,by omega⟩,aQ h0 [0] _ _ (by decide) ⟨rfl,rfl,trivial⟩ ⟨cV rfl,rfl⟩⟩
 refine ex ?_;refine sq ?_;refine rl ?_;refine o1 ?_;refine o1 ?_;refine nl ?_;refine rt ?_;have hn9:n=c:=by omega
 exact en (.inl rfl) rfl (aV (.one (.sl (trs:=(List.replicate (c) q).flatMap fF) rfl rfl (GY q us n c hn9) (BQ q c)))) (by decide) (fun h=>by cases h) (by rfl)
section
variable {α:Type}
def qG (dl:α→Bool):List α→Nat
 | []=>0
 | x::l=>if dl x then 0 else qG dl l+1
theorem Fk {dl:α→Bool}:∀(l:List α),qG dl l≤l.length
 | []=>Nat.le_refl _
 | x::l=>by
  have:=Fk (dl:=dl) l
  unfold qG
  split <;> simp <;> omega
theorem wP {dl:α→Bool}{d:α}:∀{l:List α}{k:Nat},k≤qG dl l→k<l.length→(dl (l.getD k d)=true→qG dl l=k)∧(dl (l.getD k d)=false→k+1≤qG dl l)
 | [],_,_,h=>by simp at h
 | x::l,0,_,_=>by
  have e:(x::l).getD 0 d=x:=rfl
  rw[e]
  unfold qG
  exact⟨fun h=>by simp[h],fun h=>by simp[h]⟩
 | x::l,k+1,h,h2=>by
  have e:(x::l).getD (k+1) d=l.getD k d:=by simp
  rw[e]
  unfold qG at h⊢
  by_cases hx:dl x=true
  ·simp[hx]at h
  simp only[if_neg hx]at h⊢
  have:=wP (dl:=dl) (d:=d) (l:=l) (k:=k) (by omega) (by simpa using h2)
  exact⟨fun h=>by rw[this.1 h],fun h=>by have:=this.2 h;omega⟩
theorem Jv {dl:α→Bool}:∀(l:List α),l.any dl=decide (qG dl l<l.length)
 | []=>rfl
 | x::l=>by
  unfold qG
  by_cases hx:dl x=true
  ·simp[hx]
  simp only[if_neg hx,List.any_cons,Jv l,List.length_cons]
  simp[hx]
def Jw (dl:α→Bool) (l:List α):Int:=if qG dl l=l.length then-1 else(qG dl l:Int)
theorem BS {dl:α→Bool}(l:List α):decide (0≤Jw dl l)=l.any dl:=by
 have h:=Fk (dl:=dl) l
 rw[Jv]
 unfold Jw
 split
 ·rw[decide_eq_decide];omega
 rw[decide_eq_decide];omega
end
section
variable {lt:Nat→Nat→Bool}{A B C D:List Nat}{x y j:Nat}
end
theorem HC {xs:List Fr4}{dl:Fr4→Bool}{fd:FuncId}{fst caps:List Tr}(hok:CallOk Tryz.prog fd) (hd:∀x∈xs,aE true Tryz.prog fd [] (eE fst++[.agg ((Fr4.tr false x).map .t)]++eE caps) (aN (.one (tv (.bool (dl x)))))) (hl:xs.length≤1073741823):aE true Tryz.prog 155 [] [.one (.t (sQ false xs)),.one (.t (.f fd fst caps))] (aN (.one (tv (.int .i64 (Jw dl xs))))):=by
 refine bF Tryz.func155 rfl Tryz.ntmps155 rfl aA rfl fun N w c0 h0=>?_
 refine sq ?_;refine rl ?_;refine o1 ?_;refine nl ?_;refine sq ?_;refine sq ?_;refine rl ?_;(iterate 3 refine o1 ?_);refine nl ?_;refine bl ?_
 refine lp (γ:=Nat) (fun k=>cE [(0,.one (.t (sQ false xs))),(1,.one (.t (.f fd fst caps))),(7,.one (tv (.int .i64 ((xs.length:Nat):Int)))),(8,.one (tv (.int .i64 ((k:Nat):Int))))]) (fun k=>[].map some) (fun k=>k≤xs.length∧k≤qG dl xs) (fun k=>xs.length-k) 0 (⟨Nat.zero_le _,Nat.zero_le _⟩) (aQ h0 [] _ _ (by decide) ⟨rfl,rfl,rfl,rfl,trivial⟩ rfl) fun k hk=>?_
 refine sq ?_;refine rl ?_;refine o1 ?_;refine nl ?_;refine sq ?_;refine bR rfl (fun h1=>?_) (fun h1=>?_)
 ·refine sk ?_;refine sq ?_;refine bl ?_;refine sq ?_;refine rl ?_;refine o1 ?_;refine o1 ?_;refine nl ?_;refine sq ?_;refine rl ?_;(iterate 4 refine o1 ?_)
  refine kR ((Fr4.tr false) (jM xs (k))) (Qu (f:=(Fr4.tr false)) (z:=4) (o:=0) (fun _=>rfl) (rJ (by omega)) (Nat.le_of_ble_eq_true rfl) rfl) ?_
  refine ce 0 [.agg ((Fr4.tr false (jM xs (k))).map .t)] rfl (hd (jM xs (k)) (lO (by omega))) hok ⟨rfl,rfl⟩ ?_
  refine nl ?_;refine iL rfl (fun h2=>?_) (fun h2=>?_)
  ·refine sq ?_;refine rl ?_;refine o1 ?_;refine o1 ?_;refine nl ?_;refine rt ?_;have hx9:=(wP hk.2 (by omega)).1 h2
   exact en (.inl rfl) rfl (aV (aO _)) (by decide) (fun _=>trivial) (congrArg (fun z=>FV.one (tv (.int .i64 z))) (by unfold Jw;rw[hx9,if_neg (by omega)]))
  refine sk ?_;refine rl ?_;refine o1 ?_;refine WL.cast (t:=18) (u':=.int .i64 ((k+1:Nat):Int)) rfl (aI (by omega)) ?_
  refine o1 ?_;refine nl ?_;exact⟨k+1,by omega,⟨by omega,(wP hk.2 (by omega)).2 h2⟩,aQ h0 [] _ _ (by decide) ⟨rfl,rfl,rfl,rfl,trivial⟩ rfl⟩
 refine ex ?_;refine sq ?_;refine rl ?_;refine o1 ?_;refine nl ?_;refine rt ?_;have hx9:=Fk (dl:=dl) xs
 exact en (.inl rfl) rfl (aV (aO _)) (by decide) (fun _=>trivial) (congrArg (fun z=>FV.one (tv (.int .i64 z))) (by unfold Jw;rw[if_pos (by omega)]))
theorem HD {xs:List Fr4}{dl:Fr4→Bool}{fd:FuncId}{fst caps:List Tr}(hok:CallOk Tryz.prog fd) (hd:∀x∈xs,aE true Tryz.prog fd [] (eE fst++[.agg ((Fr4.tr false x).map .t)]++eE caps) (aN (.one (tv (.bool (dl x)))))) (hl:xs.length≤1073741823):aE true Tryz.prog 107 [] [.one (.t (sQ false xs)),.one (.t (.f fd fst caps))] (aN (.one (tv (.bool (xs.any dl))))):=by
 refine bF Tryz.func107 rfl Tryz.ntmps107 rfl aA rfl fun N w c0 h0=>?_
 refine sq ?_;refine rl ?_;refine o1 ?_;refine nl ?_;refine sq ?_;refine rl ?_;refine o1 ?_;refine o1 ?_
 refine ca (HC hok hd hl) MN ⟨a1 rfl,a1 rfl,rfl⟩ (.one (tv (.int .i64 (Jw dl xs)))) ?_;refine o1 ?_;refine o1 ?_;refine nl ?_;refine rt ?_
 exact en (.inl rfl) rfl (aV (aO _)) (by decide) (fun _=>trivial) (congrArg (fun z=>FV.one (tv (.bool z))) (BS xs))
section
variable {x:Cx}{g:Nat→FV}{ob:List (Option Ob)}{Q:Post}
theorem TB {i t t' z n:Nat}{o:Bool}{l l':List Tr}(hi:Nat.blt i x.n=true) (h:g i=.one (.t (.s o t z n l))) (hr:rdTL l=l'):Sub x g ob (aZ g i (.one (.t (.s false t' z n l')))) ob:=HE hi fun W N cs u hu=>by
 subst hr
 rw[h]at hu
 simp only[bE,bO,AR]at hu⊢
 have h2:=Fl _ _ hu
 simp only[vT,FR]at h2⊢
 exact h2
end
section
variable {l:List Rat}{f:Rat→Rat}{k:Nat}
end
section
variable {l:List Rat}{k:Nat}{f:Int→Int}{z:List Int}
end
section
variable {x:Cx}{g:Nat→FV}{ob:List (Option Ob)}
end
section
variable {l:List Rat}{k i t:Nat}
end
section
variable {x:Cx}{g:Nat→FV}{ob ob':List (Option Ob)}{Q:Post}{ops:Array Oper}{rest:List Oper}{d:Nat}{ty:TypeId}{pos:String}{af:Array Edge}{gd:Option (Nat×Bool)}{T:List (Nat×TI)}
end
section
variable {x:Cx}{g:Nat→FV}{ob:List (Option Ob)}{ws:List Zi}{z:Zi}{l:List Rat}{i k n t:Nat}
end
section
variable {l:List Rat}{i t:Nat}
end
def iO (l:List Rat):Rat:=l.foldl (· * ·) 1
theorem yD (l:List Rat) (q:Rat):iO (l++[q])=iO l*q:=by simp[iO]
theorem Br (q:Rat):∀n:Nat,iO (List.replicate n q)=q^n
 | 0=>by rw[Rat.pow_zero];rfl
 | n+1=>by rw[List.replicate_succ',yD,Br q n,Rat.pow_succ]
theorem BT (n:Nat):(((10:Int):Rat))^n=((10^n:Nat):Rat):=by
 induction n with
 | zero=>rw[Rat.pow_zero];rfl
 | succ n ih=>rw[Rat.pow_succ,ih,Nat.pow_succ,Rat.natCast_mul];rfl
theorem eX (n:Nat):Sz (n+1) ((10^n:Nat):Rat):=by
 refine⟨?_,?_⟩
 ·rw[Rat.num_natCast,Int.natAbs_natCast]
  exact zX n
 rw[Rat.den_natCast]
 exact Nat.le_trans (show(dg 4294967296 1).length≤1 by decide) (by omega)
theorem Qv {xs:List Fr4}{B:Nat}(hB:2+xs.length*B≤34359738368) (hx:∀x∈xs,x.ok) (hz:∀x∈xs,Sz B x.q) (hl:xs.length≤1073741823):aE false Tryz.prog 85 [] [.one (.t (sQ false xs))] (aN (qF (.of (iO (xs.map Fr4.q))))):=by
 refine bF Tryz.func85 rfl Tryz.ntmps85 rfl aA rfl fun N9 w9 c0 h0=>?_
 have h00:((1:Int):Rat)=iO ((xs.take 0).map Fr4.q):=by simp[iO]
 refine sq ?_;refine rl ?_;refine al 0 ?_;refine nl ?_;refine sq ?_;refine rl ?_;refine ca (eB (z:=1) (by omega) (by omega)) jL ⟨a1 rfl,rfl⟩ (qF (.of ((1:Int):Rat))) ?_
 refine al 1 ?_;refine st ?_;refine nl ?_;refine sq ?_;refine sq ?_;refine rl ?_;(iterate 3 refine o1 ?_);refine nl ?_;refine bl ?_
 refine lp (γ:=Nat) (fun k=>cE [(2,.one (.pt 0 0)),(3,.one (.pt 1 0)),(7,.one (.t (sQ false xs))),(8,.one (tv (.int .i64 ((xs.length:Nat):Int)))),(9,.one (tv (.int .i64 ((k:Nat):Int))))]) (fun k=>[(⟨27,0,[tv (.bool false),tv (.slice none 0 0),tv (.bool false),tv (.slice none 0 0)]⟩:Ob),⟨27,0,((Fr4.of (iO ((xs.take (k)).map Fr4.q))).tr false).map .t⟩].map some) (fun k=>k≤xs.length∧Sz (2+k*B) (iO ((xs.take (k)).map Fr4.q))) (fun k=>xs.length-k) 0 ⟨Nat.zero_le _,by simpa[iO]using cB (z:=1) (by omega) (by omega)⟩ (aQ h0 [0,1] _ _ (by decide) ⟨rfl,rfl,rfl,rfl,rfl,trivial⟩ ⟨oe rfl rfl,cV (congrArg (fun q=>some (⟨27,0,((Fr4.of q).tr false).map .t⟩:Ob)) h00),rfl⟩) fun k hk=>?_
 have hmul:k*B≤xs.length*B:=Nat.mul_le_mul hk.1 (Nat.le_refl _)
 refine sq ?_;refine rl ?_;refine o1 ?_;refine nl ?_;refine sq ?_;refine bR rfl (fun h1=>?_) (fun h1=>?_)
 ·refine sk ?_;refine sq ?_;refine bl ?_;refine sq ?_;refine rl ?_;refine o1 ?_;refine kR ((jM xs (k)).tr false) (Qj xs (k:=k) (by omega)) ?_
  refine al 2 ?_;refine st ?_;refine nl ?_;refine rl ?_;refine ld ?_;refine ld ?_
  refine ca (De (Qn.of (p:=(iO ((xs.take (k)).map Fr4.q))) (hk.2.mono (M:=68719476736) (by omega))) ⟨hx _ (lO (by omega)),rfl⟩) Nh ⟨aB rfl,aB rfl,rfl⟩ (qF (.of ((iO ((xs.take (k)).map Fr4.q))*(jM xs (k)).q))) ?_
  refine st ?_;refine nl ?_;refine rl ?_;refine o1 ?_;refine WL.cast (t:=16) (u':=.int .i64 ((k+1:Nat):Int)) rfl (aI (by omega)) ?_
  refine o1 ?_;refine nl ?_;have hst:(iO ((xs.take (k+1)).map Fr4.q))=(iO ((xs.take (k)).map Fr4.q))*(jM xs (k)).q:=by rw[Qk (by omega)];exact yD _ _
  have hmul3:(k+1)*B=k*B+B:=Nat.succ_mul k B
  exact⟨k+1,by omega,⟨by omega,by rw[hst];exact(jR hk.2 (hz _ (lO (by omega)))).mono (by omega)⟩,aQ h0 [0,1] _ _ (by decide) ⟨rfl,rfl,rfl,rfl,rfl,trivial⟩ ⟨oe rfl rfl,cV (congrArg (fun q=>some (⟨27,0,((Fr4.of q).tr false).map .t⟩:Ob)) hst.symm),rfl⟩⟩
 refine ex ?_;refine sq ?_;refine rl ?_;refine ld ?_;refine st ?_;refine nl ?_;refine rt ?_
 exact en (.inl rfl) rfl (aV (.agg (.cons (.id rfl) (.cons (.id rfl) (.cons (.id rfl) (.cons (.id rfl) .nil)))))) (by decide) (fun h=>by cases h) (by rw[List.take_of_length_le (by omega)];rfl)
theorem HF {l:List Rat}{n:Nat}(hn:l.length=n):sQ false (qD l)=.s false 33 4 n (l.flatMap fF):=by
 unfold sQ
 rw[Jr,hn,BO]
theorem HH {c:Nat}(hc:c≤40):aE false Tryz.prog 85 [] [.one (.t (.s false 33 4 c ((List.replicate c ((10:Int):Rat)).flatMap fF)))] (aN (qF (.of ((10^c:Nat):Rat)))):=by
 have hz:∀q∈List.replicate c ((10:Int):Rat),Sz 2 q:=fun q hq=>by rw[List.eq_of_mem_replicate hq];exact cB (by omega) (by omega)
 have hl:(qD (List.replicate c ((10:Int):Rat))).length=c:=by rw[Jr,List.length_replicate]
 have h:=Qv (xs:=qD (List.replicate c ((10:Int):Rat))) (B:=2) (by rw[hl];omega) (GQ hz (by omega)) (GR hz) (by rw[hl];omega)
 rwa[LZ,HF (List.length_replicate ..),Br,BT]at h
theorem Yr:∀l:List Rat,rdTL (l.flatMap fF)=l.flatMap fF
 | []=>rfl
 | q::l=>by
  rw[List.flatMap_cons]
  have h:=Yr l
  have u32:∀xs:List Nat,rdTL (aR xs)=aR xs:=by
   intro xs
   induction xs with
   | nil=>rfl
   | cons x xs ih=>simpa[aR,rdTL,vT]using ih
  show rdTL (_::_::_::_::l.flatMap fF)=_
  simp only[rdTL,h,sU,vT,u32]
  rfl
theorem Vg {a:Fr4}{p:Rat}{c:Nat}(ha:Qn a p) (hs:Sz 1000000 p) (hc:c≤40):aE false Tryz.prog 40 [] [qF a,.one (tv (.int .i64 ((c:Nat):Int)))] (aN (.tup [kF (hal (p*((10^c:Nat):Rat))),.one (tv (.int .i64 0))])):=by
 refine bF Tryz.func40 rfl Tryz.ntmps40 rfl aA rfl fun N9 w9 c0 h0=>?_
 refine sq ?_;refine rl ?_;refine bx 0 ?_;refine al 1 ?_;refine o1 ?_;refine nl ?_;refine sq ?_;refine bl ?_;refine sq ?_;refine rl ?_;(iterate 3 refine o1 ?_);refine nl ?_
 refine bR rfl (fun h1=>?_) (fun h1=>?_)
 ·exact absurd h1 (by omega)
 refine sq ?_;refine rl ?_;(iterate 3 refine o1 ?_);refine nl ?_;refine bR rfl (fun h2=>?_) (fun h2=>?_)
 ·exact absurd h2 (by omega)
 refine sk ?_;refine sq ?_;refine rl ?_;refine ca (eB (z:=10) (by omega) (by omega)) jL ⟨a1 rfl,rfl⟩ (qF (.of ((10:Int):Rat))) ?_
 refine bs 2 ?_;refine WL.sub (PL (i:=16) (k:=2) (t:=27) (z:=4) (n:=1) (l:=(qD [((10:Int):Rat)]).flatMap (Fr4.tr false)) 33 rfl rfl rfl rfl (.one .sl)) ?_;refine o1 ?_
 refine ca (Vf (q:=((10:Int):Rat)) (c:=c) (by omega)) QM ⟨a1 rfl,a1 rfl,rfl⟩ (.one (.t (.s false 27 4 c ((List.replicate c ((10:Int):Rat)).flatMap fF)))) ?_
 refine WL.sub (TB (i:=18) (t':=33) rfl rfl (Yr _)) ?_;refine o1 ?_;refine nl ?_;refine sq ?_;refine rd [0,1] (fun i=>[5,6].contains i) mixed ?_
 refine aW 0 ?_;refine dv 1 ?_;refine aJ 2 rfl (HH (c:=c) hc) QN ⟨a1 rfl,rfl⟩ (qF (.of ((10^c:Nat):Rat))) ?_
 refine aJ 3 rfl (De ha (Qn.of (p:=((10^c:Nat):Rat)) ((eX c).mono (M:=68719476736) (by omega)))) Nh ⟨aB rfl,aB rfl,rfl⟩ (qF (.of (p*((10^c:Nat):Rat)))) ?_
 refine aJ 4 rfl (GW (Qn.of (p:=(p*((10^c:Nat):Rat))) ((jR hs (eX c)).mono (M:=68719476736) (by omega)))) QO ⟨aB rfl,rfl⟩ (kF (hal (p*((10^c:Nat):Rat)))) ?_
 refine dst 5 ?_;refine cZ 6 (by kernel_rfl) rfl rfl aA rfl (by trivial) ?_ (fun h=>by first | rfl | cases h)
 refine aU ?_;refine rt ?_;exact en (.inl rfl) rfl (dB (.cons (.agg (.cons (.id rfl) (.cons (.id rfl) .nil))) (.cons (aO _) .nil))) (by decide) (fun h=>by cases h) rfl
theorem tP {n:Int}:aD n≤40:=by unfold aD;omega
theorem Qw {v L:Nat}(h:(dg 4294967296 v).length≤L):(dg 10 v).length≤10*L:=by
 refine bN (by omega) ?_
 have h1:v<4294967296^L:=Nat.lt_of_lt_of_le (mB (B:=4294967296) (by omega)) (Nat.pow_le_pow_right (by omega) h)
 refine Nat.lt_of_lt_of_le h1 ?_
 rw[Nat.pow_mul]
 exact Nat.pow_le_pow_left (by omega) L
theorem nM {v L:Nat}(h:(dg 4294967296 v).length≤L):(tx v).length≤10*L+1:=by
 unfold tx
 split
 ·show 1≤_;omega
 rw[List.length_reverse,fV]
 have:=Qw h
 omega
theorem Qx {a b:List Nat}{d:Nat}(h:(a++b).length=a.length+d):((a++b).take ((a++b).length-d)).drop 0=a:=by
 rw[List.drop_zero,h,Nat.add_sub_cancel]
 exact List.take_left
theorem Qy {a b:List Nat}{d:Nat}(h:(a++b).length=a.length+d):(a++b).drop ((a++b).length-d)=b:=by
 rw[h,Nat.add_sub_cancel]
 exact List.drop_left
theorem HI {n d:Nat}(h:d≠0):tx (n/10^d)++[46]++pd n d=wr n d:=by
 unfold wr
 rw[if_neg h,List.append_assoc]
 rfl
theorem HJ {n d:Nat}(h:d=0):tx (n/10^d)++pd n d=wr n d:=by
 subst h
 rfl
theorem yE {n d:Nat}:(wr n d).length=(tx (n/10^d)).length+(if d=0 then 0 else d+1):=by
 unfold wr
 rw[List.length_append]
 split
 ·rfl
 rw[List.length_cons,mR]
theorem QP {z:Int}{d:Nat}(h:aL z=true):45::wr z.natAbs d=pt z d:=(if_pos (of_decide_eq_true h)).symm
theorem QQ {z:Int}{d:Nat}(h:aL z=false):wr z.natAbs d=pt z d:=(if_neg (of_decide_eq_false h)).symm
theorem Jx {p:Rat}{c L:Nat}(hs:Sz L p) (hc:c≤40) (hL:L+100≤1000000):(dg 4294967296 (hal (p*((10^c:Nat):Rat))).natAbs).length≤1000000:=by
 have h1:=(jR hs (eX c)).1
 have h2:(hal (p*((10^c:Nat):Rat))).natAbs≤(fl (p*((10^c:Nat):Rat))).natAbs+1:=by
  unfold hal
  rw[lN]
  split <;> omega
 have h3:=tL (p*((10^c:Nat):Rat))
 generalize fl (p*((10^c:Nat):Rat))=f at h2 h3
 have h4:=eW (f.natAbs:Int) 1
 have h5:((f.natAbs:Int)+1).natAbs=f.natAbs+1:=by omega
 rw[h5,Int.natAbs_natCast]at h4
 have h6:(dg 4294967296 (1:Int).natAbs).length≤1:=by decide
 have h7:=dC h2
 omega
theorem Dg {a:Fr4}{p:Rat}{n:Int}{L:Nat}(ha:Qn a p) (hs:Sz L p) (hL:L+100≤1000000):aE true Tryz.prog 16 [] [qF a,.one (tv (.int .i64 n))] (aN (.one (tv (.string (aC (cD p (aD n))))))):=by
 refine bF Tryz.func16 rfl Tryz.ntmps16 rfl aA rfl fun N9 w9 c0 h0=>?_
 have hD:(aD n)≤40:=tP
 have hkl:(dg 4294967296 (hal (p*((10^(aD n):Nat):Rat))).natAbs).length≤1000000:=Jx hs hD hL
 have htl:(tx (hal (p*((10^(aD n):Nat):Rat))).natAbs).length≤10000001:=nM hkl
 have hpl:(pd (hal (p*((10^(aD n):Nat):Rat))).natAbs (aD n)).length=(aD n):=mR _ _
 have htq:(tx ((hal (p*((10^(aD n):Nat):Rat))).natAbs/10^(aD n))).length≤10000001:=nM (Nat.le_trans (dC (Nat.div_le_self _ _)) hkl)
 have htq1:1≤(tx ((hal (p*((10^(aD n):Nat):Rat))).natAbs/10^(aD n))).length:=List.length_pos_iff.2 (pA _)
 have hZl:((tx ((hal (p*((10^(aD n):Nat):Rat))).natAbs/10^(aD n)))++(pd (hal (p*((10^(aD n):Nat):Rat))).natAbs (aD n))).length=(tx ((hal (p*((10^(aD n):Nat):Rat))).natAbs/10^(aD n))).length+(aD n):=by rw[List.length_append,hpl]
 refine sq ?_;refine rl ?_;refine bx 0 ?_;refine o1 ?_;refine nl ?_;refine sq ?_;refine rl ?_;(iterate 3 refine o1 ?_)
 refine WL.cast (t:=10) (u':=.int .i64 (((aD n):Nat):Int)) rfl (aI (by unfold aD;omega)) ?_
 refine o1 ?_;refine nl ?_;refine sq ?_;refine rl ?_;refine ld ?_;refine o1 ?_
 refine ca (Vg (c:=(aD n)) ha (hs.mono (by omega)) tP) QR ⟨aB rfl,a1 rfl,rfl⟩ (.tup [kF (hal (p*((10^(aD n):Nat):Rat))),.one (tv (.int .i64 0))]) ?_
 (iterate 3 refine o1 ?_);refine al 1 ?_;refine st ?_;refine o1 ?_;refine nl ?_;refine sq ?_;refine rl ?_;refine o1 ?_;refine ld ?_
 refine ca (MO (xs:=(dg 4294967296 (hal (p*((10^(aD n):Nat):Rat))).natAbs)) (v:=(hal (p*((10^(aD n):Nat):Rat))).natAbs) hkl (aM (by omega) _) (bK (by omega) _)) QS ⟨a1 rfl,rfl⟩ (.one (tv (.string (aC (tx (hal (p*((10^(aD n):Nat):Rat))).natAbs))))) ?_
 refine o1 ?_;refine nl ?_;refine sq ?_;refine rl ?_;refine o1 ?_;refine o1 ?_;refine WL.cast (t:=21) (u':=.int .i64 (((aD n)+1:Nat):Int)) rfl (aI (by omega)) ?_
 refine o1 ?_;refine o1 ?_
 refine WL.cast (t:=23) (u':=.int .i64 (((tx (hal (p*((10^(aD n):Nat):Rat))).natAbs).length:Nat):Int)) rfl (congrArg (fun n:Nat=>Value.int .i64 (n:Int)) (aF _)) ?_
 refine o1 ?_;refine WL.cast (t:=24) (u':=.int .i64 (((((aD n)+1:Nat):Int)-(((tx (hal (p*((10^(aD n):Nat):Rat))).natAbs).length:Nat):Int)))) rfl (aI (by omega)) ?_
 refine o1 ?_;refine WL.cast (t:=25) (u':=.int .i64 ((((aD n)+1-(tx (hal (p*((10^(aD n):Nat):Rat))).natAbs).length):Nat):Int)) rfl (aI (by omega)) ?_
 refine ca (Qz (n:=(aD n)+1-(tx (hal (p*((10^(aD n):Nat):Rat))).natAbs).length) (by omega)) QT ⟨a1 rfl,a1 rfl,rfl⟩ (.one (tv (.string (aC (List.replicate ((aD n)+1-(tx (hal (p*((10^(aD n):Nat):Rat))).natAbs).length) 48))))) ?_
 refine o1 ?_;refine o1 ?_ (hC:=(by rw[aF,aF,List.length_replicate];omega))
 refine WL.cast (t:=28) (u':=.string (aC ((tx ((hal (p*((10^(aD n):Nat):Rat))).natAbs/10^(aD n)))++(pd (hal (p*((10^(aD n):Nat):Rat))).natAbs (aD n))))) rfl (congrArg Value.string ((fZ _ _).trans (congrArg aC (Fm (aD n) (hal (p*((10^(aD n):Nat):Rat))).natAbs)))) ?_
 refine o1 ?_;refine nl ?_
 refine md (γ:=Unit) (fun _=>cE [(5,.one (.pt 0 0)),(7,.one (tv (.string (aC (wr (hal (p*((10^(aD n):Nat):Rat))).natAbs (aD n))))))]) (fun _=>([⟨25,0,[tv (.bool (aL ((hal (p*((10^(aD n):Nat):Rat)))))),.t (sU false (dg 4294967296 ((hal (p*((10^(aD n):Nat):Rat)))).natAbs))]⟩]:List Ob).map some) (fun _=>True) ?_ fun _ _=>?_
 ·refine sq ?_;refine rl ?_;refine o1 ?_;refine o1 ?_;refine nl ?_;refine bR rfl (fun h1=>?_) (fun h1=>?_)
  ·refine rd [0,1] (fun i=>[14].contains i) mixed ?_
   refine dv 0 ?_;refine dv 1 ?_;refine dv 2 ?_
   refine WD.cast (t:=33) (u':=.int .i64 ((((tx ((hal (p*((10^(aD n):Nat):Rat))).natAbs/10^(aD n)))++(pd (hal (p*((10^(aD n):Nat):Rat))).natAbs (aD n))).length:Nat):Int)) rfl (congrArg (fun n:Nat=>Value.int .i64 (n:Int)) (aF _)) ?_
   refine dv 3 ?_;refine dv 4 ?_
   refine WD.cast (t:=35) (u':=.int .i64 ((((tx ((hal (p*((10^(aD n):Nat):Rat))).natAbs/10^(aD n)))++(pd (hal (p*((10^(aD n):Nat):Rat))).natAbs (aD n))).length-(aD n):Nat):Int)) rfl (aI (by omega)) ?_
   refine dv 5 ?_ (hC:=(by rw[aF];omega))
   refine WD.cast (t:=36) (u':=.string (aC (tx ((hal (p*((10^(aD n):Nat):Rat))).natAbs/10^(aD n))))) rfl (congrArg Value.string ((gV _ 0 _).trans (congrArg aC (Qx hZl)))) ?_
   refine dv 6 ?_ (hC:=(by rw[aF];show _+1≤_;omega))
   refine WD.cast (t:=37) (u':=.string (aC ((tx ((hal (p*((10^(aD n):Nat):Rat))).natAbs/10^(aD n)))++[46]))) rfl (congrArg Value.string (fZ _ [46])) ?_;refine dv 7 ?_
   refine dv 8 ?_;refine dv 9 ?_
   refine WD.cast (t:=40) (u':=.int .i64 ((((tx ((hal (p*((10^(aD n):Nat):Rat))).natAbs/10^(aD n)))++(pd (hal (p*((10^(aD n):Nat):Rat))).natAbs (aD n))).length:Nat):Int)) rfl (congrArg (fun n:Nat=>Value.int .i64 (n:Int)) (aF _)) ?_
   refine dv 10 ?_;refine dv 11 ?_
   refine WD.cast (t:=42) (u':=.int .i64 ((((tx ((hal (p*((10^(aD n):Nat):Rat))).natAbs/10^(aD n)))++(pd (hal (p*((10^(aD n):Nat):Rat))).natAbs (aD n))).length-(aD n):Nat):Int)) rfl (aI (by omega)) ?_
   refine dv 12 ?_ (hC:=(by rw[aF];omega))
   refine WD.cast (t:=43) (u':=.string (aC (pd (hal (p*((10^(aD n):Nat):Rat))).natAbs (aD n)))) rfl (congrArg Value.string ((gW _ _).trans (congrArg aC (Qy hZl)))) ?_
   refine dv 13 ?_ (hC:=(by rw[aF,aF,List.length_append];show _+1+_≤_;omega))
   refine WD.cast (t:=44) (u':=.string (aC (wr (hal (p*((10^(aD n):Nat):Rat))).natAbs (aD n)))) rfl (congrArg Value.string ((fZ _ _).trans (congrArg aC (HI (by omega))))) ?_
   refine cZ 14 (by kernel_rfl) rfl rfl aA rfl (by trivial) ?_ (fun h=>by first | rfl | cases h)
   refine aU ?_;exact⟨(),trivial,aQ h0 [1] _ _ (by decide) ⟨rfl,rfl,trivial⟩ ⟨oe rfl rfl,rfl⟩⟩
  refine sk ?_
  exact⟨(),trivial,aQ h0 [1] _ _ (by decide) ⟨rfl,(congrArg (fun b=>some (FV.one (tv (.string (aC b))))) (HJ (n:=(hal (p*((10^(aD n):Nat):Rat))).natAbs) (d:=(aD n)) (by omega)).symm),trivial⟩ ⟨oe rfl rfl,rfl⟩⟩
 refine sq ?_;refine sq ?_;refine rl ?_;refine o1 ?_;refine ld ?_;refine nl ?_;refine iL rfl (fun h2=>?_) (fun h2=>?_)
 ·refine rl ?_;refine o1 ?_;refine o1 ?_ (hC:=(by rw[aF];show 1+_≤_;rw[yE];split <;> omega))
  refine WL.cast (t:=48) (u':=.string (aC (45::(wr (hal (p*((10^(aD n):Nat):Rat))).natAbs (aD n))))) rfl (congrArg Value.string (fZ [45] _)) ?_;refine o1 ?_;refine nl ?_
  refine sq ?_;refine rl ?_;refine o1 ?_;refine o1 ?_;refine nl ?_;refine rt ?_
  exact en (.inl rfl) rfl (aV (aO _)) (by decide) (fun _=>trivial) (congrArg (fun z=>FV.one (tv (.string z))) (congrArg aC (QP h2)))
 refine sk ?_;refine sq ?_;refine rl ?_;refine o1 ?_;refine o1 ?_;refine nl ?_;refine rt ?_
 exact en (.inl rfl) rfl (aV (aO _)) (by decide) (fun _=>trivial) (congrArg (fun z=>FV.one (tv (.string z))) (congrArg aC (QQ h2)))
theorem uZ {a:Fr4}{p:Rat}{L:Nat}(ha:Qn a p) (hs:Sz L p) (hL:L+100≤1000000):aE true Tryz.prog 18 [] [qF a] (aN (.one (tv (.string (aC (cD p (aD 2))))))):=by
 refine bF Tryz.func18 rfl Tryz.ntmps18 rfl aA rfl fun N9 w9 c0 h0=>?_
 refine sq ?_;refine rl ?_;refine bx 0 ?_;refine o1 ?_;refine nl ?_;refine sq ?_;refine rl ?_;refine ld ?_
 refine ca (Dg (n:=2) ha hs hL) Ni ⟨aB rfl,a1 rfl,rfl⟩ (.one (tv (.string (aC (cD p (aD 2)))))) ?_;refine o1 ?_;refine nl ?_;refine rt ?_
 exact en (.inl rfl) rfl (aV (aO _)) (by decide) (fun _=>trivial) (congrArg (fun z=>FV.one (tv (.string z))) (rfl))
theorem Ra {xs:List Fr4}(hx:∀x∈xs,x.ok) (hl:xs.length≤1073741823):aE true Tryz.prog 55 [] [.one (.t (sQ false xs))] (aN (.one (tv (.bool (!(xs.any mE)))))):=by
 refine bF Tryz.func55 rfl Tryz.ntmps55 rfl aA rfl fun N9 w9 c0 h0=>?_
 refine sq ?_;refine rl ?_;refine o1 ?_;refine nl ?_;refine sq ?_;refine rl ?_;refine o1 ?_
 refine ca (HD (dl:=mE) (fst:=[]) (caps:=[]) MP (fun x h=>Nf ⟨hx x h,rfl⟩) hl) MQ ⟨a1 rfl,a1 rfl,rfl⟩ (.one (tv (.bool (xs.any mE)))) ?_
 refine o1 ?_;refine o1 ?_;refine nl ?_;refine rt ?_;exact nX (.inl rfl) rfl (rfl)
theorem Nj {p:Rat}(hp:Sz 68719476736 p):aE true Tryz.prog 55 [] [.one (.t (sQ false [Fr4.of p]))] (aN (.one (tv (.bool (decide (p.den=1)))))):=by
 have h:=Ra (xs:=[Fr4.of p]) (fun x hx=>by rw[List.mem_singleton]at hx;subst hx;exact(Qn.of hp).1) (by simp)
 have e:(!([Fr4.of p].any mE))=decide (p.den=1):=by
  rw[List.any_cons,List.any_nil,Bool.or_false,Uy p (Bs p),Bool.not_not]
 rwa[e]at h
theorem HK {a:Fr4}{p:Rat}(ha:Qn a p) (hs9:Sz 68719476700 p):aE false Tryz.prog 54 [] [.one (.t (sQ false [a]))] (aN (qF (.of p))):=by
 have h:=MA (xs:=[a]) (B:=68719476700) (by show 2+1*_≤_;omega) (fun x hx=>by rw[List.mem_singleton]at hx;subst hx;exact ha.1) (fun x hx=>by rw[List.mem_singleton]at hx;subst hx;rw[ha.2];exact hs9) (by simp)
 rwa[show kQ ([a].map Fr4.q)=p by rw[List.map_cons,List.map_nil,ha.2];simp[kQ,Rat.zero_add]]at h
theorem Jy {p:Nat→Bool}{l:List Nat}:(iN p l).length≤l.length:=by
 unfold iN
 rw[List.length_reverse]
 exact Nat.le_trans (List.dropWhile_sublist _).length_le (by rw[List.length_reverse];exact Nat.le_refl _)
theorem Rb (n d:Nat):Lim 256 (wr n d):=by
 unfold wr
 refine(HM _).append ?_
 split
 ·exact Lim.nil
 exact Lim.cons (by omega) (fun c hc=>by have:=Vh _ _ c hc;omega)
theorem tQ (z:Int) (d:Nat):Lim 256 (pt z d):=by
 unfold pt
 split
 ·exact Lim.cons (by omega) (Rb _ _)
 exact Rb _ _
theorem Vi {p:Rat}{n:Int}{L:Nat}(hs:Sz L p) (hL:L+100≤1000000):(cD p (aD n)).length≤100000000:=by
 have h1:=Jx hs (tP (n:=n)) hL
 have h2:=nM (Nat.le_trans (dC (Nat.div_le_self _ (10^aD n))) h1)
 have h3:=tP (n:=n)
 have h4:=yE (n:=(hal (p*((10^aD n:Nat):Rat))).natAbs) (d:=aD n)
 unfold cD pt
 split
 ·rw[List.length_cons,h4]
  split <;> omega
 rw[h4]
 split <;> omega
def qH (p:Rat):List Nat:=if 0≤p∧p≤((1:Int):Rat)∧(p*((1000000:Int):Rat)).den=1 then cS 46 (iN p0 (cD (p*((100:Int):Rat)) (aD 4)))++[37]else []
theorem qI {p:Rat}(h:p<0∨((1:Int):Rat)<p∨¬(p*((1000000:Int):Rat)).den=1):qH p=[]:=by
 unfold qH
 rw[if_neg]
 rintro⟨h1,h2,h3⟩
 rcases h with h | h | h
 ·exact Rat.not_lt.2 h1 h
 ·exact Rat.not_lt.2 h2 h
 exact h h3
theorem Ys {p:Rat}(h1:¬p<0) (h2:¬((1:Int):Rat)<p) (h3:(p*((1000000:Int):Rat)).den=1):qH p=cS 46 (iN p0 (cD (p*((100:Int):Rat)) (aD 4)))++[37]:=if_pos ⟨Rat.not_lt.1 h1,Rat.not_lt.1 h2,h3⟩
theorem rK {a:Fr4}{p:Rat}{L:Nat}(ha:Qn a p) (hs:Sz L p) (hL:L+102≤1000000):aE true Tryz.prog 19 [] [qF a] (aN (.one (tv (.string (aC (qH p)))))):=by
 refine bF Tryz.func19 rfl Tryz.ntmps19 rfl aA rfl fun N9 w9 c0 h0=>?_
 have hm2:Sz (L+2) (p*((100:Int):Rat)):=jR hs (cB (by omega) (by omega))
 have hm6:Sz 68719476736 (p*((1000000:Int):Rat)):=(jR hs (cB (by omega) (by omega))).mono (by omega)
 have hWl:Lim 256 (cD (p*((100:Int):Rat)) (aD 4)):=tQ _ _
 have hWn:(cD (p*((100:Int):Rat)) (aD 4)).length≤100000000:=Vi hm2 (by omega)
 refine sq ?_;refine rl ?_;refine bx 0 ?_;refine o1 ?_;refine nl ?_;refine sq ?_;refine rl ?_;refine ld ?_;refine bs 1 ?_
 refine WL.sub (PL (i:=5) (k:=1) (t:=27) (z:=4) (n:=1) (l:=[a].flatMap (Fr4.tr false)) 33 rfl rfl rfl rfl (.one .sl)) ?_
 refine ca (HK ha (hs.mono (by omega))) QU ⟨a1 rfl,rfl⟩ (qF (.of p)) ?_
 refine st ?_;refine nl ?_;refine sq ?_;refine sq ?_;refine rd [0] (fun i=>[].contains i) mixed ?_
 refine aW 0 ?_;refine aJ 1 rfl (Qh (Qn.of (p:=p) (hs.mono (M:=68719476736) (by omega)))) GN ⟨aB rfl,rfl⟩ (.one (tv (.int .i64 p.num.sign))) ?_
 refine df 2 ?_;refine df 3 ?_;refine WD.split (t:=10) rfl rfl (fun h1=>?_) (fun h1=>?_)
 ·refine dH 4 ?_;refine dH 5 ?_;refine dH 6 ?_;refine dH 7 ?_;refine df 8 ?_;refine df 9 ?_;refine dH 10 ?_;refine dH 11 ?_;refine dH 12 ?_;refine dH 13 ?_;refine dH 14 ?_
  refine dH 15 ?_;refine df 16 ?_;refine aU ?_;refine fX rfl ?_;refine sq ?_;refine rl ?_;refine o1 ?_;refine nl ?_;refine rt ?_
  exact en (.inl rfl) rfl (aV (aO _)) (by decide) (fun _=>trivial) (congrArg (fun z=>FV.one (tv (.string z))) (congrArg aC (qI (.inl (iI.1 (Int.sign_neg_iff.1 h1)))).symm))
 refine aW 4 ?_;refine aJ 5 rfl (eB (z:=1) (by omega) (by omega)) jL ⟨a1 rfl,rfl⟩ (qF (.of ((1:Int):Rat))) ?_
 refine aJ 6 rfl (Nc (Qn.of (p:=p) (hs.mono (M:=68719476736) (by omega))) (Qn.of (p:=((1:Int):Rat)) (cB (by omega) (by omega)))) zZ ⟨aB rfl,aB rfl,rfl⟩ (.one (tv (.int .i64 (p-((1:Int):Rat)).num.sign))) ?_
 refine df 7 ?_;refine df 8 ?_;refine df 9 ?_;refine WD.split (t:=16) rfl rfl (fun h2=>?_) (fun h2=>?_)
 ·refine dH 10 ?_;refine dH 11 ?_;refine dH 12 ?_;refine dH 13 ?_;refine dH 14 ?_;refine dH 15 ?_;refine df 16 ?_;refine aU ?_;refine fX rfl ?_;refine sq ?_;refine rl ?_
  refine o1 ?_;refine nl ?_;refine rt ?_
  exact en (.inl rfl) rfl (aV (aO _)) (by decide) (fun _=>trivial) (congrArg (fun z=>FV.one (tv (.string z))) (congrArg aC (qI (.inr (.inl (Yn h2)))).symm))
 refine aW 10 ?_;refine aJ 11 rfl (eB (z:=1000000) (by omega) (by omega)) jL ⟨a1 rfl,rfl⟩ (qF (.of ((1000000:Int):Rat))) ?_
 refine aJ 12 rfl (De (Qn.of (p:=p) (hs.mono (M:=68719476736) (by omega))) (Qn.of (p:=((1000000:Int):Rat)) (cB (by omega) (by omega)))) Nh ⟨aB rfl,aB rfl,rfl⟩ (qF (.of (p*((1000000:Int):Rat)))) ?_
 refine Nk (key:=2) 13 (by kernel_rfl) rfl rfl aA rfl ⟨rfl,trivial⟩ ?_
 refine PM (i:=20) (k:=2) (t:=27) (t':=33) (z:=4) (n:=1) (l:=[Fr4.of (p*((1000000:Int):Rat))].flatMap (Fr4.tr false)) rfl rfl rfl rfl (.one .sl) (by rfl) (by rfl) ?_
 refine aJ 14 rfl (Nj (p:=(p*((1000000:Int):Rat))) hm6) QV ⟨a1 rfl,rfl⟩ (.one (tv (.bool (decide ((p*((1000000:Int):Rat)).den=1))))) ?_
 refine WD.splitb (t:=21) rfl (fun h3=>?_) (fun h3=>?_)
 ·refine df 15 ?_;refine df 16 ?_;refine aU ?_;refine fW rfl ?_;refine sk ?_;refine sq ?_;refine rd [0] (fun i=>[2,4].contains i) mixed ?_
  refine aW 0 ?_;refine aJ 1 rfl (eB (z:=100) (by omega) (by omega)) jL ⟨a1 rfl,rfl⟩ (qF (.of ((100:Int):Rat))) ?_
  refine aJ 2 rfl (De (Qn.of (p:=p) (hs.mono (M:=68719476736) (by omega))) (Qn.of (p:=((100:Int):Rat)) (cB (by omega) (by omega)))) Nh ⟨aB rfl,aB rfl,rfl⟩ (qF (.of (p*((100:Int):Rat)))) ?_
  refine aJ 3 rfl (Dg (p:=p*((100:Int):Rat)) (n:=4) (Qn.of (p:=p*((100:Int):Rat)) (hm2.mono (M:=68719476736) (by omega))) hm2 (by omega)) Ni ⟨aB rfl,a1 rfl,rfl⟩ (.one (tv (.string (aC (cD (p*((100:Int):Rat)) (aD 4)))))) ?_
  refine cZ 4 (by kernel_rfl) rfl rfl aA rfl (by trivial) ?_ (fun h=>by first | rfl | cases h)
  refine aU ?_;refine sq ?_;refine rl ?_;refine o1 ?_
  refine ca (Vj hWl (by omega)) QW ⟨a1 rfl,a1 rfl,rfl⟩ (.one (tv (.string (aC (iN p0 (cD (p*((100:Int):Rat)) (aD 4))))))) ?_
  refine ca (Cq (uX hWl) (Nat.le_trans Jy (by omega))) QX ⟨a1 rfl,a1 rfl,rfl⟩ (.one (tv (.string (aC (cS 46 (iN p0 (cD (p*((100:Int):Rat)) (aD 4)))))))) ?_
  refine o1 ?_ (hC:=(by rw[aF];have h8:=Ec (c:=46) (l:=iN p0 (cD (p*((100:Int):Rat)) (aD 4)));have h9:=Jy (p:=p0) (l:=(cD (p*((100:Int):Rat)) (aD 4)));show _+1≤_;omega))
  refine WL.cast (t:=31) (u':=.string (aC (cS 46 (iN p0 (cD (p*((100:Int):Rat)) (aD 4)))++[37]))) rfl (congrArg Value.string (fZ _ [37])) ?_;refine o1 ?_;refine nl ?_
  refine rt ?_
  exact en (.inl rfl) rfl (aV (aO _)) (by decide) (fun _=>trivial) (congrArg (fun z=>FV.one (tv (.string z))) (congrArg aC (Ys (fun h9=>h1 (Int.sign_neg_iff.2 (iI.2 h9))) (fun h9=>h2 (Fg h9)) (of_decide_eq_true h3)).symm))
 refine df 15 ?_;refine df 16 ?_;refine aU ?_;refine fX rfl ?_;refine sq ?_;refine rl ?_;refine o1 ?_;refine nl ?_;refine rt ?_
 exact en (.inl rfl) rfl (aV (aO _)) (by decide) (fun _=>trivial) (congrArg (fun z=>FV.one (tv (.string z))) (congrArg aC (qI (.inr (.inr (of_decide_eq_false h3)))).symm))
end Go.Proofs.YtcaakamelngceaaGreatDoor
