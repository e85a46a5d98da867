/- Part 13 of a proof: A6 to F1. -/
import Derived.Test.YthoemjjmkgmnjaaGreatM12
import Derived.Test.YthoemjjmkgmnjaaGreatM7
import Derived.Test.YthoemjjmkgmnjaaGreatM11
import Derived.Test.YthoemjjmkgmnjaaGreatM9
set_option maxRecDepth 100000
set_option linter.unusedVariables false
set_option linter.unusedSimpArgs false
namespace Go.Proofs.YthoemjjmkgmnjaaGreat
open Go Go.RowKit
theorem NI {xs:List Fr4}(hne:0<xs.length) (hx:∀x∈xs,x.ok∧Sz 17179869184 x.q) (hl:xs.length≤1099511627776):aE false Tryz.prog 27 [] [.one (.t (sQ false xs))] (aN (qF (.of (lI (xs.map Fr4.q))))):=by
 refine bC Tryz.func27 rfl Tryz.ntmps27 rfl aA rfl fun N w c0 h0=>?_
 refine sq ?_;refine rl ?_;refine al 0 ?_;refine nl ?_;refine sq ?_;refine rl ?_;refine o1 ?_;refine o1 ?_;refine cW ((fF xs (0)).tr false) (uN xs (k:=0) (by omega)) ?_
 refine ca (kN ⟨(hx _ (fJ (by omega))).1,rfl⟩) wD ⟨aB rfl,rfl⟩ (qF (.of (fF xs (0)).q)) ?_
 refine al 1 ?_;refine st ?_;refine nl ?_;refine sq ?_;refine sq ?_;refine rl ?_;refine o1 ?_;refine nl ?_;refine bl ?_
 refine lp (γ:=Nat) (fun k=>bS [(0,.one (.t (sQ false xs))),(2,.one (.pt 0 0)),(3,.one (.pt 1 0)),(4,.one (tv (.int .i64 ((k:Nat):Int))))]) (fun k=>[(⟨49,0,[tv (.bool false),tv (.slice none 0 0),tv (.bool false),tv (.slice none 0 0)]⟩:Ob),⟨49,0,((Fr4.of (lI ((xs.take k).map Fr4.q))).tr false).map .t⟩].map some) (fun k=>1≤k∧k≤xs.length∧Sz 17179869184 (lI ((xs.take k).map Fr4.q))) (fun k=>xs.length-k) 1 ⟨Nat.le_refl _,hne,by rw[Hw hne];exact(hx _ (fJ hne)).2⟩ (aG h0 [0,1] _ _ (by decide) ⟨rfl,rfl,rfl,rfl,trivial⟩ ⟨oe rfl rfl,aQ (congrArg (fun q=>some (⟨49,0,((Fr4.of q).tr false).map .t⟩:Ob)) (Hw hne).symm),rfl⟩) fun k hk=>?_
 refine sq ?_;refine sq ?_;refine rl ?_;(iterate 4 refine o1 ?_);refine nl ?_;refine bP rfl (fun h1=>?_) (fun h1=>?_)
 ·refine sk ?_;refine sq ?_;refine bl ?_;refine sq ?_;refine rd [0,1] (fun i=>[].contains i) mixed ?_
  refine dv 0 ?_;refine dv 1 ?_;refine dv 2 ?_;refine cM 3 ((fF xs (k)).tr false) (uN xs (k:=k) (by omega)) ?_
  refine aI 4 ?_
  refine aF 5 rfl (uM ⟨(hx _ (fJ (by omega))).1,rfl⟩ (Qn.of (p:=(lI ((xs.take k).map Fr4.q))) hk.2.2) (hx _ (fJ (by omega))).2 hk.2.2) Fu ⟨aB rfl,aB rfl,rfl⟩ (.one (tv (.int .i64 ((fF xs (k)).q-(lI ((xs.take k).map Fr4.q))).num.sign))) ?_
  refine df 6 ?_;refine aJ ?_;refine bP rfl (fun h2=>?_) (fun h2=>?_)
  ·refine rl ?_;(iterate 3 refine o1 ?_);refine cW ((fF xs (k)).tr false) (uN xs (k:=k) (by omega)) ?_
   refine ca (kN ⟨(hx _ (fJ (by omega))).1,rfl⟩) wD ⟨aB rfl,rfl⟩ (qF (.of (fF xs (k)).q)) ?_
   refine st ?_;refine nl ?_;refine rl ?_;refine o1 ?_;refine o1 ?_;refine WL.cast (t:=14) (u':=.int .i64 ((k+1:Nat):Int)) rfl (aH (by omega)) ?_
   refine o1 ?_;refine nl ?_;have hst:(lI ((xs.take (k+1)).map Fr4.q))=(fF xs k).q:=(Dx hk.1 (by omega)).trans (if_pos ((uH _ _).1 h2))
   exact⟨k+1,by omega,⟨by omega,by omega,by rw[hst];exact(hx _ (fJ (by omega))).2⟩,aG h0 [0,1] _ _ (by decide) ⟨rfl,rfl,rfl,rfl,trivial⟩ ⟨oe rfl rfl,aQ (congrArg (fun q=>some (⟨49,0,((Fr4.of q).tr false).map .t⟩:Ob)) hst.symm),rfl⟩⟩
  refine sk ?_;refine rl ?_;refine o1 ?_;refine o1 ?_;refine WL.cast (t:=14) (u':=.int .i64 ((k+1:Nat):Int)) rfl (aH (by omega)) ?_
  refine o1 ?_;refine nl ?_;have hst:(lI ((xs.take (k+1)).map Fr4.q))=(lI ((xs.take k).map Fr4.q)):=(Dx hk.1 (by omega)).trans (if_neg fun h8=>h2 ((uH _ _).2 h8))
  exact⟨k+1,by omega,⟨by omega,by omega,by rw[hst];exact hk.2.2⟩,aG h0 [0,1] _ _ (by decide) ⟨rfl,rfl,rfl,rfl,trivial⟩ ⟨oe rfl rfl,aQ (congrArg (fun q=>some (⟨49,0,((Fr4.of q).tr false).map .t⟩:Ob)) hst.symm),rfl⟩⟩
 refine ex ?_;refine sq ?_;refine rl ?_;refine ld ?_;refine st ?_;refine nl ?_;refine rt ?_
 exact en (.inl rfl) rfl (aO (.agg (.cons (.id rfl) (.cons (.id rfl) (.cons (.id rfl) (.cons (.id rfl) .nil)))))) (by decide) (fun h=>by cases h) (by rw[List.take_of_length_le (by omega)];rfl)
def jI (ys:List (Fr4×Fr4)):Tr:=.s false 72 8 ys.length (ys.flatMap bV)
theorem Lk:aE false Tryz.prog 47 [] [] (aN (qF (.of ((0:Int):Rat)))):=by
 refine bC Tryz.func47 rfl Tryz.ntmps47 rfl aA rfl fun N w c0 h0=>?_
 refine sq ?_;refine rl ?_;refine al 0 ?_;refine nl ?_;refine sq ?_;refine rl ?_;refine ca (rK (n:=0) (by omega) (by omega)) Ll ⟨a1 rfl,rfl⟩ (qF (.of ((0:Int):Rat))) ?_
 refine st ?_;refine nl ?_;refine rt ?_;exact en (.inl rfl) rfl (aO (.agg (.cons (.id rfl) (.cons (.id rfl) (.cons (.id rfl) (.cons (.id rfl) .nil)))))) (by decide) (fun h=>by cases h) (rfl)
theorem Fv {a:Fr4}{p:Rat}(ha:Qn a p):aE false Tryz.prog 43 [] [qF a] (aN (qF (.of (abv p)))):=by
 refine bC Tryz.func43 rfl Tryz.ntmps43 rfl aA rfl fun N w c0 h0=>?_
 refine sq ?_;refine rl ?_;refine bx 0 ?_;refine al 1 ?_;refine nl ?_;refine sq ?_;refine sq ?_;refine rl ?_;refine ld ?_
 refine ca (iA ha) nY ⟨aB rfl,rfl⟩ (.one (tv (.int .i64 p.num.sign))) ?_;refine o1 ?_;refine nl ?_;refine bP rfl (fun h1=>?_) (fun h1=>?_)
 ·refine sq ?_;refine rl ?_;refine ca (Lk) BI rfl (qF (.of ((0:Int):Rat))) ?_;refine st ?_;refine nl ?_;refine rt ?_
  exact en (.inl rfl) rfl (aO (.agg (.cons (.id rfl) (.cons (.id rfl) (.cons (.id rfl) (.cons (.id rfl) .nil)))))) (by decide) (fun h=>by cases h) (congrArg (fun q=>qF (.of q)) ((kZ p).trans (if_pos ((iQ p).1 h1))).symm)
 refine sk ?_;refine sq ?_;refine rl ?_;refine ld ?_;refine ca (kN ha) wD ⟨aB rfl,rfl⟩ (qF (.of p)) ?_;refine st ?_;refine nl ?_;refine rt ?_
 exact en (.inl rfl) rfl (aO (.agg (.cons (.id rfl) (.cons (.id rfl) (.cons (.id rfl) (.cons (.id rfl) .nil)))))) (by decide) (fun h=>by cases h) (congrArg (fun q=>qF (.of q)) ((kZ p).trans (if_neg (fun h9=>h1 ((iQ p).2 h9)))).symm)
theorem Fw {c a b:Fr4}{q p:Rat}{bk fw:Int}(hc:Qn c q) (ha:Qn a p) (hs:Sz 17179869184 q) (hs2:Sz 17179869184 p):aE false Tryz.prog 45 [] [.agg ((c.tr false++[.v (.int .i64 bk),.v (.int .i64 fw)]:List Tr).map .t),.agg ((bV (a,b)).map .t)] (aN (qF (.of (q*abv p)))):=by
 refine bC Tryz.func45 rfl Tryz.ntmps45 rfl aA rfl fun N w c0 h0=>?_
 have hs1:Sz 17179869184 (abv p):=cQ hs2 (by omega)
 refine sq ?_;refine rl ?_;refine bx 0 ?_;refine bx 1 ?_;refine al 2 ?_;refine nl ?_;refine sq ?_;refine rd [0,1,2] (fun i=>[6].contains i) mixed ?_
 refine dv 0 ?_;refine aI 1 ?_;refine dv 2 ?_;refine aI 3 ?_;refine aF 4 rfl (Fv ha) BJ ⟨aB rfl,rfl⟩ (qF (.of (abv p))) ?_
 refine aF 5 rfl (NG hc (Qn.of (p:=(abv p)) hs1) hs hs1) VW ⟨aB rfl,aB rfl,rfl⟩ (qF (.of (q*(abv p)))) ?_;refine dst 6 ?_;refine aJ ?_;refine rt ?_
 exact en (.inl rfl) rfl (aO (.agg (.cons (.id rfl) (.cons (.id rfl) (.cons (.id rfl) (.cons (.id rfl) .nil)))))) (by decide) (fun h=>by cases h) (rfl)
theorem SE {c:Fr4}{bk fw:Int}{ys:List (Fr4×Fr4)}(hsm:Sm c ys):aE true Tryz.prog 40 [] [.agg ((c.tr false++[.v (.int .i64 bk),.v (.int .i64 fw)]:List Tr).map .t),.one (.t (jI ys))] (aN (.one (tv (.int .i64 (cY c bk fw ys))))):=by
 refine bC Tryz.func40 rfl Tryz.ntmps40 rfl aA rfl fun N w c0 h0=>?_
 have hs1:Sz 8 ((1:Int):Rat):=(kX (z:=1) (by omega) (by omega)).mono (by omega)
 have hlz:∀y∈ys,Sz 8 (c.q*abv y.1.q):=fun y hy=>(pL hsm.cz (cQ (Ks (hsm.y y hy).1.1 (hsm.y y hy).1.2) (by omega))).mono (by omega)
 have hl50:=hsm.l
 replace hs1:Sz 17179869184 ((1:Int):Rat):=hs1.mono (by omega)
 refine sq ?_;refine rl ?_;refine bx 0 ?_;refine o1 ?_;refine nl ?_;refine sq ?_;refine sq ?_;refine rd [0] (fun i=>[].contains i) mixed ?_
 refine dv 0 ?_;refine aI 1 ?_;refine aF 2 rfl (wC (⟨hsm.c.1,rfl⟩:Qn c c.q)) Tm ⟨aB rfl,rfl⟩ (.one (tv (.bool (bD c.s c.x c.t c.y)))) ?_
 refine WD.splitb (t:=8) rfl (fun h1=>?_) (fun h1=>?_)
 ·refine df 3 ?_;refine df 4 ?_;refine dv 5 ?_;refine aI 6 ?_;refine aF 7 rfl (iA (⟨hsm.c.1,rfl⟩:Qn c c.q)) nY ⟨aB rfl,rfl⟩ (.one (tv (.int .i64 c.q.num.sign))) ?_;refine df 8 ?_
  refine df 9 ?_;refine df 10 ?_;refine WD.split (t:=16) rfl rfl (fun h2=>?_) (fun h2=>?_)
  ·refine aC 11 ?_;refine aC 12 ?_;refine aC 13 ?_;refine aC 14 ?_;refine aC 15 ?_;refine df 16 ?_;refine df 17 ?_;refine aC 18 ?_;refine aC 19 ?_;refine aC 20 ?_;refine df 21 ?_
   refine df 22 ?_;refine aC 23 ?_;refine aC 24 ?_;refine aC 25 ?_;refine df 26 ?_;refine df 27 ?_;refine aC 28 ?_;refine aC 29 ?_;refine aC 30 ?_;refine df 31 ?_;refine df 32 ?_
   refine aC 33 ?_;refine aC 34 ?_;refine aC 35 ?_;refine df 36 ?_;refine aJ ?_;refine gL rfl ?_;refine sq ?_;refine rl ?_;refine o1 ?_;refine nl ?_;refine rt ?_
   exact en (.inl rfl) rfl (aO (bL _)) (by decide) (fun _=>trivial) (congrArg (fun z=>FV.one (tv (.int .i64 z))) (by unfold cY;rw[show fT c bk fw=true by simp only[fT,h1,decide_eq_true h2,Bool.not_true,Bool.not_false,Bool.or_true,Bool.true_or,Bool.false_or,Bool.or_false,Bool.false_eq_true,if_true,if_false,ite_true,ite_false,Bool.and_true,Bool.true_and,Bool.false_and,Bool.and_false]];rfl))
  refine dv 11 ?_;refine aI 12 ?_;refine aF 13 rfl (rK (n:=1) (by omega) (by omega)) Ll ⟨a1 rfl,rfl⟩ (qF (.of ((1:Int):Rat))) ?_
  refine aF 14 rfl (uM (⟨hsm.c.1,rfl⟩:Qn c c.q) (Qn.of (p:=((1:Int):Rat)) hs1) (hsm.cz.mono (by omega)) hs1) Fu ⟨aB rfl,aB rfl,rfl⟩ (.one (tv (.int .i64 (c.q-((1:Int):Rat)).num.sign))) ?_
  refine df 15 ?_;refine df 16 ?_;refine df 17 ?_;refine WD.split (t:=23) rfl rfl (fun h3=>?_) (fun h3=>?_)
  ·refine aC 18 ?_;refine aC 19 ?_;refine aC 20 ?_;refine df 21 ?_;refine df 22 ?_;refine aC 23 ?_;refine aC 24 ?_;refine aC 25 ?_;refine df 26 ?_;refine df 27 ?_;refine aC 28 ?_
   refine aC 29 ?_;refine aC 30 ?_;refine df 31 ?_;refine df 32 ?_;refine aC 33 ?_;refine aC 34 ?_;refine aC 35 ?_;refine df 36 ?_;refine aJ ?_;refine gL rfl ?_;refine sq ?_
   refine rl ?_;refine o1 ?_;refine nl ?_;refine rt ?_
   exact en (.inl rfl) rfl (aO (bL _)) (by decide) (fun _=>trivial) (congrArg (fun z=>FV.one (tv (.int .i64 z))) (by unfold cY;rw[show fT c bk fw=true by simp only[fT,h1,decide_eq_false h2,decide_eq_true h3,Bool.not_true,Bool.not_false,Bool.or_true,Bool.true_or,Bool.false_or,Bool.or_false,Bool.false_eq_true,if_true,if_false,ite_true,ite_false,Bool.and_true,Bool.true_and,Bool.false_and,Bool.and_false]];rfl))
  refine dv 18 ?_;refine aI 19 ?_;refine dv 20 ?_;refine df 21 ?_;refine df 22 ?_;refine WD.split (t:=28) rfl rfl (fun h4=>?_) (fun h4=>?_)
  ·refine aC 23 ?_;refine aC 24 ?_;refine aC 25 ?_;refine df 26 ?_;refine df 27 ?_;refine aC 28 ?_;refine aC 29 ?_;refine aC 30 ?_;refine df 31 ?_;refine df 32 ?_
   refine aC 33 ?_;refine aC 34 ?_;refine aC 35 ?_;refine df 36 ?_;refine aJ ?_;refine gL rfl ?_;refine sq ?_;refine rl ?_;refine o1 ?_;refine nl ?_;refine rt ?_
   exact en (.inl rfl) rfl (aO (bL _)) (by decide) (fun _=>trivial) (congrArg (fun z=>FV.one (tv (.int .i64 z))) (by unfold cY;rw[show fT c bk fw=true by simp only[fT,h1,decide_eq_false h2,decide_eq_false h3,decide_eq_true h4,Bool.not_true,Bool.not_false,Bool.or_true,Bool.true_or,Bool.false_or,Bool.or_false,Bool.false_eq_true,if_true,if_false,ite_true,ite_false,Bool.and_true,Bool.true_and,Bool.false_and,Bool.and_false]];rfl))
  refine dv 23 ?_;refine aI 24 ?_;refine dv 25 ?_;refine df 26 ?_;refine df 27 ?_;refine WD.split (t:=33) rfl rfl (fun h5=>?_) (fun h5=>?_)
  ·refine aC 28 ?_;refine aC 29 ?_;refine aC 30 ?_;refine df 31 ?_;refine df 32 ?_;refine aC 33 ?_;refine aC 34 ?_;refine aC 35 ?_;refine df 36 ?_;refine aJ ?_
   refine gL rfl ?_;refine sq ?_;refine rl ?_;refine o1 ?_;refine nl ?_;refine rt ?_
   exact en (.inl rfl) rfl (aO (bL _)) (by decide) (fun _=>trivial) (congrArg (fun z=>FV.one (tv (.int .i64 z))) (by unfold cY;rw[show fT c bk fw=true by simp only[fT,h1,decide_eq_false h2,decide_eq_false h3,decide_eq_false h4,decide_eq_true h5,Bool.not_true,Bool.not_false,Bool.or_true,Bool.true_or,Bool.false_or,Bool.or_false,Bool.false_eq_true,if_true,if_false,ite_true,ite_false,Bool.and_true,Bool.true_and,Bool.false_and,Bool.and_false]];rfl))
  refine dv 28 ?_;refine aI 29 ?_;refine dv 30 ?_;refine df 31 ?_;refine df 32 ?_;refine WD.split (t:=38) rfl rfl (fun h6=>?_) (fun h6=>?_)
  ·refine aC 33 ?_;refine aC 34 ?_;refine aC 35 ?_;refine df 36 ?_;refine aJ ?_;refine gL rfl ?_;refine sq ?_;refine rl ?_;refine o1 ?_;refine nl ?_;refine rt ?_
   exact en (.inl rfl) rfl (aO (bL _)) (by decide) (fun _=>trivial) (congrArg (fun z=>FV.one (tv (.int .i64 z))) (by unfold cY;rw[show fT c bk fw=true by simp only[fT,h1,decide_eq_false h2,decide_eq_false h3,decide_eq_false h4,decide_eq_false h5,decide_eq_true h6,Bool.not_true,Bool.not_false,Bool.or_true,Bool.true_or,Bool.false_or,Bool.or_false,Bool.false_eq_true,if_true,if_false,ite_true,ite_false,Bool.and_true,Bool.true_and,Bool.false_and,Bool.and_false]];rfl))
  refine dv 33 ?_;refine aI 34 ?_;refine dv 35 ?_;refine df 36 ?_;refine aJ ?_;refine bP rfl (fun h7=>?_) (fun h7=>?_)
  ·refine sq ?_;refine rl ?_;refine o1 ?_;refine nl ?_;refine rt ?_
   exact en (.inl rfl) rfl (aO (bL _)) (by decide) (fun _=>trivial) (congrArg (fun z=>FV.one (tv (.int .i64 z))) (by unfold cY;rw[show fT c bk fw=true by simp only[fT,h1,decide_eq_false h2,decide_eq_false h3,decide_eq_false h4,decide_eq_false h5,decide_eq_false h6,decide_eq_true h7,Bool.not_true,Bool.not_false,Bool.or_true,Bool.true_or,Bool.false_or,Bool.or_false,Bool.false_eq_true,if_true,if_false,ite_true,ite_false,Bool.and_true,Bool.true_and,Bool.false_and,Bool.and_false]];rfl))
  refine sk ?_;refine sq ?_;refine sq ?_
  have hbr:fT c bk fw=false:=by simp only[fT,h1,decide_eq_false h2,decide_eq_false h3,decide_eq_false h4,decide_eq_false h5,decide_eq_false h6,decide_eq_false h7,Bool.not_true,Bool.not_false,Bool.or_true,Bool.true_or,Bool.false_or,Bool.or_false,Bool.false_eq_true,if_true,if_false,ite_true,ite_false,Bool.and_true,Bool.true_and,Bool.false_and,Bool.and_false]
  refine rl ?_;refine o1 ?_;refine nl ?_;refine bl ?_
  refine lp (γ:=Nat) (fun k=>bS [(1,.one (.t (jI ys))),(2,.one (.pt 0 0)),(5,.one (tv (.int .i64 ((k:Nat):Int))))]) (fun _=>[(⟨58,0,(c.tr false++[.v (.int .i64 bk),.v (.int .i64 fw)]:List Tr).map .t⟩:Ob)].map some) (fun k=>k≤ys.length∧∀j,j<k→gH c (bX ys j)=false) (fun k=>ys.length-k) 0 ⟨Nat.zero_le _,fun j hj=>absurd hj (Nat.not_lt_zero j)⟩ (aG h0 [0] _ _ (by decide) ⟨rfl,rfl,rfl,trivial⟩ ⟨oe rfl rfl,rfl⟩) fun k hk=>?_
  refine sq ?_;refine sq ?_;refine rl ?_;(iterate 4 refine o1 ?_);refine nl ?_;refine bP rfl (fun h8=>?_) (fun h8=>?_)
  ·refine sk ?_;refine sq ?_;refine bl ?_;refine sq ?_;have hx:=hsm.y _ (iR (ys:=ys) (k:=k) (by omega))
   refine rd [0] (fun i=>[].contains i) mixed ?_
   refine dv 0 ?_;refine dv 1 ?_;refine dv 2 ?_;refine dv 3 ?_
   refine cM 4 ((bX ys (k)).1.tr false) (aP (f:=bV) (z:=8) (o:=0) cV (fA (by omega)) (Nat.le_of_ble_eq_true rfl) rfl) ?_
   refine aF 5 rfl (wC (⟨hx.1.1,rfl⟩:Qn (bX ys k).1 (bX ys k).1.q)) Tm ⟨aB rfl,rfl⟩ (.one (tv (.bool (bD (bX ys (k)).1.s (bX ys (k)).1.x (bX ys (k)).1.t (bX ys (k)).1.y)))) ?_
   refine WD.splitb (t:=54) rfl (fun h9=>?_) (fun h9=>?_)
   ·refine df 6 ?_;refine df 7 ?_;refine dv 8 ?_;refine dv 9 ?_;refine dv 10 ?_;refine dv 11 ?_
    refine cM 12 ((bX ys (k)).2.tr false) (aP (f:=bV) (z:=8) (o:=4) cV (fA (by omega)) (Nat.le_of_ble_eq_true rfl) rfl) ?_
    refine aF 13 rfl (wC (⟨hx.2.1,rfl⟩:Qn (bX ys k).2 (bX ys k).2.q)) Tm ⟨aB rfl,rfl⟩ (.one (tv (.bool (bD (bX ys (k)).2.s (bX ys (k)).2.x (bX ys (k)).2.t (bX ys (k)).2.y)))) ?_
    refine WD.splitb (t:=62) rfl (fun h10=>?_) (fun h10=>?_)
    ·refine df 14 ?_;refine df 15 ?_;refine df 16 ?_;refine dv 17 ?_;refine dv 18 ?_;refine dv 19 ?_;refine dv 20 ?_
     refine cM 21 ((bX ys (k)).2.tr false) (aP (f:=bV) (z:=8) (o:=4) cV (fA (by omega)) (Nat.le_of_ble_eq_true rfl) rfl) ?_
     refine aF 22 rfl (iA (⟨hx.2.1,rfl⟩:Qn (bX ys k).2 (bX ys k).2.q)) nY ⟨aB rfl,rfl⟩ (.one (tv (.int .i64 (bX ys (k)).2.q.num.sign))) ?_;refine df 23 ?_
     refine df 24 ?_;refine df 25 ?_;refine WD.split (t:=74) rfl rfl (fun h11=>?_) (fun h11=>?_)
     ·refine aC 26 ?_;refine aC 27 ?_;refine aC 28 ?_;refine aC 29 ?_;refine aC 30 ?_;refine aC 31 ?_;refine aC 32 ?_;refine aC 33 ?_;refine aC 34 ?_
      refine aC 35 ?_;refine aC 36 ?_;refine aC 37 ?_;refine aC 38 ?_;refine df 39 ?_;refine aJ ?_;refine gL rfl ?_;refine sq ?_;refine rl ?_;refine o1 ?_;refine nl ?_
      refine rt ?_
      have hby:gH c (bX ys k)=true:=by simp only[gH,h9,h10,decide_eq_true h11,Bool.not_true,Bool.not_false,Bool.or_true,Bool.true_or,Bool.false_or,Bool.or_false,Bool.false_eq_true,if_true,if_false,ite_true,ite_false,Bool.and_true,Bool.true_and,Bool.false_and,Bool.and_false]
      have hany:ys.any (gH c)=true:=List.any_eq_true.2 ⟨_,iR (by omega),hby⟩
      exact en (.inl rfl) rfl (aO (bL _)) (by decide) (fun _=>trivial) (congrArg (fun z=>FV.one (tv (.int .i64 z))) (by unfold cY;rw[hany,Bool.or_true,if_pos rfl]))
     refine dv 26 ?_;refine dv 27 ?_;refine dv 28 ?_;refine dv 29 ?_
     refine cM 30 ((bX ys (k)).2.tr false) (aP (f:=bV) (z:=8) (o:=4) cV (fA (by omega)) (Nat.le_of_ble_eq_true rfl) rfl) ?_
     refine aI 31 ?_;refine dv 32 ?_;refine dv 33 ?_;refine dv 34 ?_
     refine cM 35 (bV (bX ys (k))) (aP (f:=bV) (z:=8) (o:=0) cV (fA (by omega)) (Nat.le_of_ble_eq_true rfl) rfl) ?_
     refine aF 36 rfl (Fw (b:=(bX ys k).2) (⟨hsm.c.1,rfl⟩:Qn c c.q) (⟨hx.1.1,rfl⟩:Qn (bX ys k).1 (bX ys k).1.q) (hsm.cz.mono (by omega)) ((Ks hx.1.1 hx.1.2).mono (by omega))) BK ⟨aB rfl,aB rfl,rfl⟩ (qF (.of (c.q*abv (bX ys k).1.q))) ?_
     refine aF 37 rfl (uM (⟨hx.2.1,rfl⟩:Qn (bX ys k).2 (bX ys k).2.q) (Qn.of (p:=(c.q*abv (bX ys k).1.q)) (hlz _ (iR (by omega)))) ((Ks hx.2.1 hx.2.2).mono (by omega)) ((hlz _ (iR (by omega))).mono (by omega))) Fu ⟨aB rfl,aB rfl,rfl⟩ (.one (tv (.int .i64 ((bX ys (k)).2.q-(c.q*abv (bX ys k).1.q)).num.sign))) ?_
     refine df 38 ?_;refine df 39 ?_;refine aJ ?_;refine bP rfl (fun h12=>?_) (fun h12=>?_)
     ·refine sq ?_;refine rl ?_;refine o1 ?_;refine nl ?_;refine rt ?_
      have hby:gH c (bX ys k)=true:=by simp only[gH,h9,h10,decide_eq_false h11,decide_eq_true h12,Bool.not_true,Bool.not_false,Bool.or_true,Bool.true_or,Bool.false_or,Bool.or_false,Bool.false_eq_true,if_true,if_false,ite_true,ite_false,Bool.and_true,Bool.true_and,Bool.false_and,Bool.and_false]
      have hany:ys.any (gH c)=true:=List.any_eq_true.2 ⟨_,iR (by omega),hby⟩
      exact en (.inl rfl) rfl (aO (bL _)) (by decide) (fun _=>trivial) (congrArg (fun z=>FV.one (tv (.int .i64 z))) (by unfold cY;rw[hany,Bool.or_true,if_pos rfl]))
     refine sk ?_;refine rl ?_;refine o1 ?_;refine o1 ?_;refine WL.cast (t:=48) (u':=.int .i64 ((k+1:Nat):Int)) rfl (aH (by omega)) ?_
     refine o1 ?_;refine nl ?_
     exact⟨k+1,by omega,⟨by omega,fun j hj=>by rcases Nat.lt_succ_iff_lt_or_eq.1 hj with h9 | h9;exact hk.2 j h9;subst h9;simp only[gH,h9,h10,decide_eq_false h11,decide_eq_false h12,Bool.not_true,Bool.not_false,Bool.or_true,Bool.true_or,Bool.false_or,Bool.or_false,Bool.false_eq_true,if_true,if_false,ite_true,ite_false,Bool.and_true,Bool.true_and,Bool.false_and,Bool.and_false]⟩,aG h0 [0] _ _ (by decide) ⟨rfl,rfl,rfl,trivial⟩ ⟨oe rfl rfl,rfl⟩⟩
    refine df 14 ?_;refine df 15 ?_;refine df 16 ?_;refine aC 17 ?_;refine aC 18 ?_;refine aC 19 ?_;refine aC 20 ?_;refine aC 21 ?_;refine aC 22 ?_;refine aC 23 ?_
    refine df 24 ?_;refine df 25 ?_;refine aC 26 ?_;refine aC 27 ?_;refine aC 28 ?_;refine aC 29 ?_;refine aC 30 ?_;refine aC 31 ?_;refine aC 32 ?_;refine aC 33 ?_
    refine aC 34 ?_;refine aC 35 ?_;refine aC 36 ?_;refine aC 37 ?_;refine aC 38 ?_;refine df 39 ?_;refine aJ ?_;refine gL rfl ?_;refine sq ?_;refine rl ?_
    refine o1 ?_;refine nl ?_;refine rt ?_
    have hby:gH c (bX ys k)=true:=by simp only[gH,h9,h10,Bool.not_true,Bool.not_false,Bool.or_true,Bool.true_or,Bool.false_or,Bool.or_false,Bool.false_eq_true,if_true,if_false,ite_true,ite_false,Bool.and_true,Bool.true_and,Bool.false_and,Bool.and_false]
    have hany:ys.any (gH c)=true:=List.any_eq_true.2 ⟨_,iR (by omega),hby⟩
    exact en (.inl rfl) rfl (aO (bL _)) (by decide) (fun _=>trivial) (congrArg (fun z=>FV.one (tv (.int .i64 z))) (by unfold cY;rw[hany,Bool.or_true,if_pos rfl]))
   refine df 6 ?_;refine df 7 ?_;refine aC 8 ?_;refine aC 9 ?_;refine aC 10 ?_;refine aC 11 ?_;refine aC 12 ?_;refine aC 13 ?_;refine aC 14 ?_;refine df 15 ?_
   refine df 16 ?_;refine aC 17 ?_;refine aC 18 ?_;refine aC 19 ?_;refine aC 20 ?_;refine aC 21 ?_;refine aC 22 ?_;refine aC 23 ?_;refine df 24 ?_;refine df 25 ?_
   refine aC 26 ?_;refine aC 27 ?_;refine aC 28 ?_;refine aC 29 ?_;refine aC 30 ?_;refine aC 31 ?_;refine aC 32 ?_;refine aC 33 ?_;refine aC 34 ?_;refine aC 35 ?_
   refine aC 36 ?_;refine aC 37 ?_;refine aC 38 ?_;refine df 39 ?_;refine aJ ?_;refine gL rfl ?_;refine sq ?_;refine rl ?_;refine o1 ?_;refine nl ?_;refine rt ?_
   have hby:gH c (bX ys k)=true:=by simp only[gH,h9,Bool.not_true,Bool.not_false,Bool.or_true,Bool.true_or,Bool.false_or,Bool.or_false,Bool.false_eq_true,if_true,if_false,ite_true,ite_false,Bool.and_true,Bool.true_and,Bool.false_and,Bool.and_false]
   have hany:ys.any (gH c)=true:=List.any_eq_true.2 ⟨_,iR (by omega),hby⟩
   exact en (.inl rfl) rfl (aO (bL _)) (by decide) (fun _=>trivial) (congrArg (fun z=>FV.one (tv (.int .i64 z))) (by unfold cY;rw[hany,Bool.or_true,if_pos rfl]))
  refine ex ?_;refine sq ?_;refine sq ?_;refine rl ?_;(iterate 3 refine o1 ?_);refine nl ?_;refine bP rfl (fun h13=>?_) (fun h13=>?_)
  ·refine sq ?_;refine rl ?_;refine o1 ?_;refine nl ?_;refine rt ?_;have hany:ys.any (gH c)=false:=by
    rw[List.any_eq_false];intro y hy;obtain⟨j,hj⟩:=List.mem_iff_getElem?.1 hy
    have hjl:=(List.getElem?_eq_some_iff.1 hj).1
    rw[fA hjl]at hj;injection hj with hj;rw[←hj,hk.2 j (by omega)]
    simp
   exact en (.inl rfl) rfl (aO (bL _)) (by decide) (fun _=>trivial) (congrArg (fun z=>FV.one (tv (.int .i64 z))) (by unfold cY;rw[hbr,hany,decide_eq_true h13];rfl))
  refine sk ?_;refine sq ?_;refine rl ?_;refine o1 ?_;refine nl ?_;refine rt ?_;have hany:ys.any (gH c)=false:=by
   rw[List.any_eq_false];intro y hy;obtain⟨j,hj⟩:=List.mem_iff_getElem?.1 hy
   have hjl:=(List.getElem?_eq_some_iff.1 hj).1
   rw[fA hjl]at hj;injection hj with hj;rw[←hj,hk.2 j (by omega)]
   simp
  exact en (.inl rfl) rfl (aO (bL _)) (by decide) (fun _=>trivial) (congrArg (fun z=>FV.one (tv (.int .i64 z))) (by unfold cY;rw[hbr,hany,decide_eq_false h13];rfl))
 refine df 3 ?_;refine df 4 ?_;refine aC 5 ?_;refine aC 6 ?_;refine aC 7 ?_;refine aC 8 ?_;refine df 9 ?_;refine df 10 ?_;refine aC 11 ?_;refine aC 12 ?_;refine aC 13 ?_
 refine aC 14 ?_;refine aC 15 ?_;refine df 16 ?_;refine df 17 ?_;refine aC 18 ?_;refine aC 19 ?_;refine aC 20 ?_;refine df 21 ?_;refine df 22 ?_;refine aC 23 ?_;refine aC 24 ?_
 refine aC 25 ?_;refine df 26 ?_;refine df 27 ?_;refine aC 28 ?_;refine aC 29 ?_;refine aC 30 ?_;refine df 31 ?_;refine df 32 ?_;refine aC 33 ?_;refine aC 34 ?_;refine aC 35 ?_
 refine df 36 ?_;refine aJ ?_;refine gL rfl ?_;refine sq ?_;refine rl ?_;refine o1 ?_;refine nl ?_;refine rt ?_
 exact en (.inl rfl) rfl (aO (bL _)) (by decide) (fun _=>trivial) (congrArg (fun z=>FV.one (tv (.int .i64 z))) (by unfold cY;rw[show fT c bk fw=true by simp only[fT,h1,Bool.not_true,Bool.not_false,Bool.or_true,Bool.true_or,Bool.false_or,Bool.or_false,Bool.false_eq_true,if_true,if_false,ite_true,ite_false,Bool.and_true,Bool.true_and,Bool.false_and,Bool.and_false]];rfl))
def jC (M:Mx) (N:Nat) (rs:List Rf) (us:List Uf):List Tr:=[gS rs,kI us,.v (.bool (Fr4.of M.cap).s),sU false (Fr4.of M.cap).x,.v (.bool (Fr4.of M.cap).t),sU false (Fr4.of M.cap).y,.v (.int .i64 ((M.b:Nat):Int)),.v (.int .i64 ((M.w:Nat):Int)),fM (yrs M N)]
theorem qQ {L:Nat}{q:Rat}(h:Sz L q):Sz L (-q):=by
 unfold Sz at*
 rwa[Rat.neg_num,Rat.neg_den,Int.natAbs_neg]
theorem dG {L K:Nat}{p q:Rat}(h:Sz L p) (h':Sz K q):Sz (L+K+1) (p+q):=gY h h'
theorem Fx {L K:Nat}{p q:Rat}(h:Sz L p) (h':Sz K q):Sz (L+K+1) (p-q):=by
 rw[Rat.sub_eq_add_neg]
 exact gY h (qQ h')
theorem kD {N k:Nat}{f:Nat→Bool}(hk:k<N) (h:f k=false):(List.range N).all f=false:=by
 rw[List.all_eq_false]
 exact⟨k,List.mem_range.2 hk,by rw[h];decide⟩
theorem lV {N k:Nat}{f:Nat→Bool}(hk:N≤k) (h:∀j,j<k→f j=true):(List.range N).all f=true:=by
 rw[List.all_eq_true]
 exact fun x hx=>h x (by rw[List.mem_range]at hx;omega)
theorem BL {N k:Nat}{f:Nat→Bool}(hk:k<N) (h:f k=true):(List.range N).any f=true:=List.any_eq_true.2 ⟨k,List.mem_range.2 hk,h⟩
theorem IH {N k:Nat}{f:Nat→Bool}(hk:N≤k) (h:∀j,j<k→f j=false):(List.range N).any f=false:=by
 rw[List.any_eq_false]
 exact fun x hx=>by rw[h x (by rw[List.mem_range]at hx;omega)];decide
theorem lJ {f:Nat→Bool}{k:Nat}{b:Bool}(h:∀j,j<k→f j=b) (h2:f k=b):∀j,j<k+1→f j=b:=fun j hj=>by
 rcases Nat.lt_succ_iff_lt_or_eq.1 hj with h9 | h9
 ·exact h j h9
 rw[h9];exact h2
theorem VX (z:Int):decide (0<z)= !decide (z≤0):=by
 rw[←decide_not,decide_eq_decide];omega
theorem Wz {b:Bool}(h:(!b)=false):b=true:=by cases b <;> simp_all
theorem Xa {b:Bool}(h:(!b)=true):b=false:=by cases b <;> simp_all
theorem f0 {f:Nat→Bool}{b:Bool}:∀j,j<0→f j=b:=fun j hj=>absurd hj (Nat.not_lt_zero j)
theorem SF (a b c:Rat):fS [a,b,c]=a+b+c:=by simp[fS,Rat.zero_add]
theorem BM {α:Type}(l:List α) (p:α→Bool):(!(l.any p))=l.all fun x=> !p x:=by
 induction l with
 | nil=>rfl
 | cons x l ih=>simp only[List.any_cons,List.all_cons,Bool.not_or,ih]
theorem II {xs:List Uf}{dl:Uf→Bool}{fd:FuncId}{fst caps:List Tr}(hok:CallOk Tryz.prog fd) (hd:∀x∈xs,aE true Tryz.prog fd [] (cP fst++[.agg ((fR false x).map .t)]++cP caps) (aN (.one (tv (.bool (dl x)))))) (hl:xs.length≤1073741823):aE true Tryz.prog 144 [] [.one (.t (kI xs)),.one (.t (.f fd fst caps))] (aN (.one (tv (.int .i64 (Bj dl xs))))):=by
 refine bC Tryz.func144 rfl Tryz.ntmps144 rfl aA rfl fun N w c0 h0=>?_
 refine sq ?_;refine rl ?_;refine o1 ?_;refine nl ?_;refine sq ?_;refine sq ?_;refine rl ?_;(iterate 3 refine o1 ?_);refine nl ?_;refine bl ?_
 refine lp (γ:=Nat) (fun k=>bS [(0,.one (.t (kI xs))),(1,.one (.t (.f fd fst caps))),(7,.one (tv (.int .i64 ((xs.length:Nat):Int)))),(8,.one (tv (.int .i64 ((k:Nat):Int))))]) (fun k=>[].map some) (fun k=>k≤xs.length∧k≤sT dl xs) (fun k=>xs.length-k) 0 (⟨Nat.zero_le _,Nat.zero_le _⟩) (aG h0 [] _ _ (by decide) ⟨rfl,rfl,rfl,rfl,trivial⟩ rfl) fun k hk=>?_
 refine sq ?_;refine rl ?_;refine o1 ?_;refine nl ?_;refine sq ?_;refine bP rfl (fun h1=>?_) (fun h1=>?_)
 ·refine sk ?_;refine sq ?_;refine bl ?_;refine sq ?_;refine rl ?_;refine o1 ?_;refine o1 ?_;refine nl ?_;refine sq ?_;refine rl ?_;(iterate 4 refine o1 ?_)
  refine cW ((fR false) (bZ xs (k))) (aP (f:=(fR false)) (z:=14) (o:=0) (fE false) (dS (us:=xs) (k:=k) (by omega)) (Nat.le_of_ble_eq_true rfl) rfl) ?_
  refine ce 0 [.agg ((fR false (bZ xs (k))).map .t)] rfl (hd (bZ xs (k)) (dZ (by omega))) hok ⟨rfl,rfl⟩ ?_
  refine nl ?_;refine lL rfl (fun h2=>?_) (fun h2=>?_)
  ·refine sq ?_;refine rl ?_;refine o1 ?_;refine o1 ?_;refine nl ?_;refine rt ?_;have hx9:=(rN hk.2 (by omega)).1 h2
   exact en (.inl rfl) rfl (aO (bL _)) (by decide) (fun _=>trivial) (congrArg (fun z=>FV.one (tv (.int .i64 z))) (by unfold Bj;rw[hx9,if_neg (by omega)]))
  refine sk ?_;refine rl ?_;refine o1 ?_;refine WL.cast (t:=18) (u':=.int .i64 ((k+1:Nat):Int)) rfl (aH (by omega)) ?_
  refine o1 ?_;refine nl ?_;exact⟨k+1,by omega,⟨by omega,(rN hk.2 (by omega)).2 h2⟩,aG h0 [] _ _ (by decide) ⟨rfl,rfl,rfl,rfl,trivial⟩ rfl⟩
 refine ex ?_;refine sq ?_;refine rl ?_;refine o1 ?_;refine nl ?_;refine rt ?_;have hx9:=Dy (dl:=dl) xs
 exact en (.inl rfl) rfl (aO (bL _)) (by decide) (fun _=>trivial) (congrArg (fun z=>FV.one (tv (.int .i64 z))) (by unfold Bj;rw[if_pos (by omega)]))
theorem Qe {xs:List Uf}{dl:Uf→Bool}{fd:FuncId}{fst caps:List Tr}(hok:CallOk Tryz.prog fd) (hd:∀x∈xs,aE true Tryz.prog fd [] (cP fst++[.agg ((fR false x).map .t)]++cP caps) (aN (.one (tv (.bool (dl x)))))) (hl:xs.length≤1073741823):aE true Tryz.prog 98 [] [.one (.t (kI xs)),.one (.t (.f fd fst caps))] (aN (.one (tv (.bool (xs.any dl))))):=by
 refine bC Tryz.func98 rfl Tryz.ntmps98 rfl aA rfl fun N w c0 h0=>?_
 refine sq ?_;refine rl ?_;refine o1 ?_;refine nl ?_;refine sq ?_;refine rl ?_;refine o1 ?_;refine o1 ?_
 refine ca (II hok hd hl) SG ⟨a1 rfl,a1 rfl,rfl⟩ (.one (tv (.int .i64 (Bj dl xs)))) ?_;refine o1 ?_;refine o1 ?_;refine nl ?_;refine rt ?_
 exact en (.inl rfl) rfl (aO (bL _)) (by decide) (fun _=>trivial) (congrArg (fun z=>FV.one (tv (.bool z))) (Qf xs))
theorem Tn {M:Mx}{N:Nat}{rs:List Rf}{us:List Uf}(hOk:M.Ok N) (hJ:JOk rs us){v y:Int}:aE true Tryz.prog 100 [] [.one (.t (.p false 112 (jC M N rs us))),.one (tv (.int .i64 v)),.one (tv (.int .i64 y))] (aN (.one (tv (.bool (M.win N v y))))):=by
 refine bC Tryz.func100 rfl Tryz.ntmps100 rfl aA rfl fun N9 w9 c0 h0=>?_
 have h9l:=cK M N;have h9r:=hJ.rl;have h9u:=hJ.ul;have h9n:=hOk.n;have h9b:=hOk.b;have h9w:=hOk.w
 refine sq ?_;refine rl ?_;refine o1 ?_;refine nl ?_;refine sq ?_;refine rl ?_;(iterate 3 refine o1 ?_);refine cW ([fM (yrs M N)]) rfl ?_;refine o1 ?_
 refine WL.cast (t:=12) (u':=.int .i64 ((N:Nat):Int)) rfl (aH (by rw[cK])) ?_
 refine o1 ?_;refine nl ?_;refine sq ?_;refine rl ?_;(iterate 3 refine o1 ?_);refine WL.split (t:=15) rfl (fun h1=>?_) (fun h1=>?_)
 ·(iterate 5 refine o1 ?_);refine WL.split (t:=20) rfl (fun h2=>?_) (fun h2=>?_)
  ·(iterate 4 refine o1 ?_);refine WL.split (t:=24) rfl (fun h3=>?_) (fun h3=>?_)
   ·(iterate 5 refine o1 ?_);refine WL.split (t:=29) rfl (fun h4=>?_) (fun h4=>?_)
    ·(iterate 3 refine o1 ?_);refine cW ([fM (yrs M N)]) rfl ?_;refine o1 ?_;refine WL.cast (t:=34) (u':=.int .i64 ((v.toNat:Nat):Int)) rfl (aH (by omega)) ?_
     refine o1 ?_;refine o1 ?_
     refine cW ((Fr4.of (M.inc (v.toNat))).tr false) (aP (f:=bV) (z:=8) (o:=0) cV (eB (M:=M) (N:=N) (y:=v.toNat) (by omega)) (Nat.le_of_ble_eq_true rfl) rfl) ?_
     refine ca (fZ (Qn.of (p:=(M.inc (v.toNat))) (hOk.sz_inc (y:=v.toNat) (by omega)))) kL ⟨aB rfl,rfl⟩ (.one (tv (.int .i64 (M.inc (v.toNat)).num.sign))) ?_
     (iterate 3 refine o1 ?_);refine WL.split (t:=41) rfl (fun h5=>?_) (fun h5=>?_)
     ·(iterate 3 refine o1 ?_);refine cW ([fM (yrs M N)]) rfl ?_;refine o1 ?_;refine WL.cast (t:=46) (u':=.int .i64 ((y.toNat:Nat):Int)) rfl (aH (by omega)) ?_
      refine o1 ?_;refine o1 ?_
      refine cW ((Fr4.of (M.inc (y.toNat))).tr false) (aP (f:=bV) (z:=8) (o:=0) cV (eB (M:=M) (N:=N) (y:=y.toNat) (by omega)) (Nat.le_of_ble_eq_true rfl) rfl) ?_
      refine ca (fZ (Qn.of (p:=(M.inc (y.toNat))) (hOk.sz_inc (y:=y.toNat) (by omega)))) kL ⟨aB rfl,rfl⟩ (.one (tv (.int .i64 (M.inc (y.toNat)).num.sign))) ?_
      (iterate 3 refine o1 ?_);refine WL.split (t:=53) rfl (fun h6=>?_) (fun h6=>?_)
      ·(iterate 6 refine o1 ?_);refine cW ([.v (.int .i64 ((M.b:Nat):Int))]) rfl ?_;(iterate 4 refine o1 ?_);refine WL.split (t:=64) rfl (fun h7=>?_) (fun h7=>?_)
       ·(iterate 6 refine o1 ?_);refine cW ([.v (.int .i64 ((M.w:Nat):Int))]) rfl ?_;(iterate 4 refine o1 ?_);refine nl ?_;refine rt ?_
        exact eL (.inl rfl) rfl (by simp only[Mx.win,decide_eq_true h1,decide_eq_true h2,decide_eq_true h3,decide_eq_true h4,decide_eq_true h5,decide_eq_true h6,decide_eq_true h7] <;> first | rfl | simp)
       (iterate 9 refine bF ?_);refine o1 ?_;refine o1 ?_;refine nl ?_;refine rt ?_
       exact eL (.inl rfl) rfl (by simp only[Mx.win,decide_eq_true h1,decide_eq_true h2,decide_eq_true h3,decide_eq_true h4,decide_eq_true h5,decide_eq_true h6,decide_eq_false h7] <;> first | rfl | simp)
      (iterate 9 refine bF ?_);refine o1 ?_;refine o1 ?_;(iterate 9 refine bF ?_);refine o1 ?_;refine o1 ?_;refine nl ?_;refine rt ?_
      exact eL (.inl rfl) rfl (by simp only[Mx.win,decide_eq_true h1,decide_eq_true h2,decide_eq_true h3,decide_eq_true h4,decide_eq_true h5,decide_eq_false h6] <;> first | rfl | simp)
     (iterate 10 refine bF ?_);refine o1 ?_;refine o1 ?_;(iterate 9 refine bF ?_);refine o1 ?_;refine o1 ?_;(iterate 9 refine bF ?_);refine o1 ?_;refine o1 ?_;refine nl ?_
     refine rt ?_;exact eL (.inl rfl) rfl (by simp only[Mx.win,decide_eq_true h1,decide_eq_true h2,decide_eq_true h3,decide_eq_true h4,decide_eq_false h5] <;> first | rfl | simp)
    (iterate 10 refine bF ?_);refine o1 ?_;refine o1 ?_;(iterate 10 refine bF ?_);refine o1 ?_;refine o1 ?_;(iterate 9 refine bF ?_);refine o1 ?_;refine o1 ?_
    (iterate 9 refine bF ?_);refine o1 ?_;refine o1 ?_;refine nl ?_;refine rt ?_
    exact eL (.inl rfl) rfl (by simp only[Mx.win,decide_eq_true h1,decide_eq_true h2,decide_eq_true h3,decide_eq_false h4] <;> first | rfl | simp)
   (iterate 3 refine bF ?_);refine o1 ?_;refine o1 ?_;(iterate 10 refine bF ?_);refine o1 ?_;refine o1 ?_;(iterate 10 refine bF ?_);refine o1 ?_;refine o1 ?_;(iterate 9 refine bF ?_)
   refine o1 ?_;refine o1 ?_;(iterate 9 refine bF ?_);refine o1 ?_;refine o1 ?_;refine nl ?_;refine rt ?_
   exact eL (.inl rfl) rfl (by simp only[Mx.win,decide_eq_true h1,decide_eq_true h2,decide_eq_false h3] <;> first | rfl | simp)
  refine bF ?_;refine bF ?_;refine o1 ?_;refine o1 ?_;(iterate 3 refine bF ?_);refine o1 ?_;refine o1 ?_;(iterate 10 refine bF ?_);refine o1 ?_;refine o1 ?_;(iterate 10 refine bF ?_)
  refine o1 ?_;refine o1 ?_;(iterate 9 refine bF ?_);refine o1 ?_;refine o1 ?_;(iterate 9 refine bF ?_);refine o1 ?_;refine o1 ?_;refine nl ?_;refine rt ?_
  exact eL (.inl rfl) rfl (by simp only[Mx.win,decide_eq_true h1,decide_eq_false h2] <;> first | rfl | simp)
 (iterate 3 refine bF ?_);refine o1 ?_;refine o1 ?_;refine bF ?_;refine bF ?_;refine o1 ?_;refine o1 ?_;(iterate 3 refine bF ?_);refine o1 ?_;refine o1 ?_;(iterate 10 refine bF ?_)
 refine o1 ?_;refine o1 ?_;(iterate 10 refine bF ?_);refine o1 ?_;refine o1 ?_;(iterate 9 refine bF ?_);refine o1 ?_;refine o1 ?_;(iterate 9 refine bF ?_);refine o1 ?_;refine o1 ?_
 refine nl ?_;refine rt ?_;exact eL (.inl rfl) rfl (by simp only[Mx.win,decide_eq_false h1] <;> first | rfl | simp)
theorem IJ {M:Mx}{N:Nat}{rs:List Rf}{us:List Uf}(hOk:M.Ok N) (hJ:JOk rs us){u:Uf}(hu:BF u.n∧BF u.p∧BF u.q):aE true Tryz.prog 99 [] [.agg ((fR false u).map .t),.one (.t (.p false 110 [.p false 112 (jC M N rs us)]))] (aN (.one (tv (.bool (!M.useJ N u))))):=by
 refine bC Tryz.func99 rfl Tryz.ntmps99 rfl aA rfl fun N9 w9 c0 h0=>?_
 have h9l:=cK M N;have h9r:=hJ.rl;have h9u:=hJ.ul;have h9n:=hOk.n;have h9b:=hOk.b;have h9w:=hOk.w
 refine WP.sub (pJ (i:=1) rfl rfl) ?_;refine sq ?_;refine rl ?_;refine bx 0 ?_;refine o1 ?_;refine nl ?_;refine sq ?_;refine rl ?_;refine cW ([.p false 112 (jC M N rs us)]) rfl ?_
 refine o1 ?_;refine ld ?_;refine o1 ?_;refine ld ?_;refine ca (Tn hOk hJ (v:=u.v) (y:=u.y)) To ⟨a1 rfl,a1 rfl,a1 rfl,rfl⟩ (.one (tv (.bool (M.win N u.v u.y)))) ?_
 refine WL.splitb (t:=9) rfl (fun h1=>?_) (fun h1=>?_)
 ·(iterate 3 refine o1 ?_);refine ld ?_;refine ca (fZ hu.1.qn) kL ⟨aB rfl,rfl⟩ (.one (tv (.int .i64 u.n.q.num.sign))) ?_;(iterate 3 refine o1 ?_)
  refine WL.split (t:=17) rfl (fun h2=>?_) (fun h2=>?_)
  ·(iterate 4 refine bF ?_);refine o1 ?_;refine o1 ?_;(iterate 4 refine bF ?_);refine o1 ?_;refine o1 ?_;refine nl ?_;refine rt ?_
   exact eL (.inl rfl) rfl (by simp only[Mx.useJ,h1,decide_eq_true h2] <;> first | rfl | simp)
  refine o1 ?_;refine ld ?_;refine ca (fZ hu.2.1.qn) kL ⟨aB rfl,rfl⟩ (.one (tv (.int .i64 u.p.q.num.sign))) ?_;(iterate 3 refine o1 ?_)
  refine WL.split (t:=23) rfl (fun h3=>?_) (fun h3=>?_)
  ·(iterate 4 refine bF ?_);refine o1 ?_;refine o1 ?_;refine nl ?_;refine rt ?_
   exact eL (.inl rfl) rfl (by simp only[Mx.useJ,h1,decide_eq_false h2,decide_eq_true h3] <;> first | rfl | simp)
  refine o1 ?_;refine ld ?_;refine ca (fZ hu.2.2.qn) kL ⟨aB rfl,rfl⟩ (.one (tv (.int .i64 u.q.q.num.sign))) ?_;(iterate 3 refine o1 ?_);refine nl ?_;refine rt ?_
  exact eL (.inl rfl) rfl (by simp only[Mx.useJ,h1,decide_eq_false h2,decide_eq_false h3] <;> first | rfl | simp)
 refine o1 ?_;refine o1 ?_;(iterate 4 refine bF ?_);refine o1 ?_;refine o1 ?_;(iterate 4 refine bF ?_);refine o1 ?_;refine o1 ?_;(iterate 4 refine bF ?_);refine o1 ?_;refine o1 ?_
 refine nl ?_;refine rt ?_;exact eL (.inl rfl) rfl (by simp only[Mx.useJ,h1] <;> first | rfl | simp)
theorem NJ {M:Mx}{N:Nat}{rs:List Rf}{us:List Uf}(hOk:M.Ok N) (hJ:JOk rs us):aE true Tryz.prog 55 [] [.one (.t (.p false 112 (jC M N rs us)))] (aN (.one (tv (.bool (us.all (M.useJ N)))))):=by
 refine bC Tryz.func55 rfl Tryz.ntmps55 rfl aA rfl fun N9 w9 c0 h0=>?_
 have h9l:=cK M N;have h9r:=hJ.rl;have h9u:=hJ.ul;have h9n:=hOk.n;have h9b:=hOk.b;have h9w:=hOk.w
 refine sq ?_;refine rl ?_;refine bx 0 ?_;refine o1 ?_;refine nl ?_;refine sq ?_;refine rl ?_;refine ld ?_;(iterate 3 refine o1 ?_);refine cW ([kI us]) rfl ?_
 refine WL.sub (xB (i:=1) (k:=0) (t:=110) (l:=[.p false 112 (jC M N rs us)]) rfl rfl rfl (.one .sl)) ?_;refine o1 ?_
 refine ca (Qe (fst:=[]) (caps:=[.p false 110 [.p false 112 (jC M N rs us)]]) VY (fun u hu=>IJ hOk hJ (hJ.u u hu)) (by have:=hJ.ul;omega)) NK ⟨a1 rfl,a1 rfl,rfl⟩ (.one (tv (.bool (us.any fun u=> !M.useJ N u)))) ?_
 refine o1 ?_;refine o1 ?_;refine nl ?_;refine rt ?_;exact eL (.inl rfl) rfl (List.all_eq_not_any_not.symm)
theorem NL {M:Mx}{N:Nat}{rs:List Rf}{us:List Uf}(hOk:M.Ok N) (hJ:JOk rs us):aE true Tryz.prog 54 [] [.one (.t (.p false 112 (jC M N rs us)))] (aN (.one (tv (.bool (decide (rs.length=N)&&(List.range N).all (M.rowJ rs)))))):=by
 refine bC Tryz.func54 rfl Tryz.ntmps54 rfl aA rfl fun N9 w9 c0 h0=>?_
 have h9l:=cK M N;have h9r:=hJ.rl;have h9u:=hJ.ul;have h9n:=hOk.n;have h9b:=hOk.b;have h9w:=hOk.w
 refine sq ?_;refine rl ?_;refine o1 ?_;refine nl ?_;refine sq ?_;refine sq ?_;refine rd [] (fun i=>[].contains i) mixed ?_
 refine dv 0 ?_;refine dv 1 ?_;refine dv 2 ?_;refine dv 3 ?_;refine cM 4 ([gS rs]) rfl ?_;refine dv 5 ?_;refine dv 6 ?_;refine dv 7 ?_;refine dv 8 ?_;refine cM 9 ([fM (yrs M N)]) rfl ?_
 refine dv 10 ?_;refine WD.cast (t:=15) (u':=.int .i64 ((N:Nat):Int)) rfl (aH (by rw[cK])) ?_
 refine dv 11 ?_;refine aJ ?_;refine bP rfl (fun h1=>?_) (fun h1=>?_)
 ·refine sq ?_;refine rl ?_;refine o1 ?_;refine nl ?_;refine rt ?_;exact eL (.inl rfl) rfl (by rw[decide_eq_false (show¬rs.length=N by omega)];rfl)
 refine sk ?_;refine sq ?_;refine sq ?_;refine rl ?_;(iterate 4 refine o1 ?_);refine cW ([gS rs]) rfl ?_;refine o1 ?_;refine o1 ?_;refine nl ?_;refine bl ?_
 refine lp (γ:=Nat) (fun k=>bS [(0,.one (.t (.p false 112 (jC M N rs us)))),(21,.one (.t (gS rs))),(22,.one (tv (.int .i64 ((rs.length:Nat):Int)))),(23,.one (tv (.int .i64 ((k:Nat):Int))))]) (fun k=>([]:List Ob).map some) (fun k=>k≤rs.length∧∀j,j<k→M.rowJ rs j=true) (fun k=>rs.length-k) 0 ⟨Nat.zero_le _,f0⟩ (aG h0 [] _ _ (by decide) ⟨rfl,rfl,rfl,rfl,trivial⟩ rfl) fun k hk=>?_
 refine sq ?_;refine rl ?_;refine o1 ?_;refine nl ?_;refine sq ?_;refine bP rfl (fun h2=>?_) (fun h2=>?_)
 ·refine sk ?_;refine sq ?_;refine bl ?_;refine sq ?_;refine rl ?_;refine o1 ?_;refine o1 ?_
  refine cW ((jR false) (aR rs (k))) (aP (f:=(jR false)) (z:=24) (o:=0) (jL false) (iC (rs:=rs) (k:=k) (by omega)) (Nat.le_of_ble_eq_true rfl) rfl) ?_
  refine al 0 ?_;refine o1 ?_;refine st ?_;refine nl ?_
  refine md (γ:=Unit) (fun _=>bS [(0,.one (.t (.p false 112 (jC M N rs us)))),(21,.one (.t (gS rs))),(22,.one (tv (.int .i64 ((rs.length:Nat):Int)))),(23,.one (tv (.int .i64 ((k:Nat):Int)))),(59,.one (tv (.bool (!M.rowJ rs k))))]) (fun _=>([]:List Ob).map some) (fun _=>True) ?_ fun _ _=>?_
  ·refine rd [0] (fun i=>[].contains i) mixed ?_
   refine dv 0 ?_;refine aI 1 ?_;refine dv 2 ?_;refine dv 3 ?_;refine dv 4 ?_;refine cM 5 ([fM (yrs M N)]) rfl ?_;refine dv 6 ?_;refine dv 7 ?_;refine dv 8 ?_
   refine cM 9 ((Fr4.of (M.inc (k))).tr false) (aP (f:=bV) (z:=8) (o:=0) cV (eB (M:=M) (N:=N) (y:=k) (by omega)) (Nat.le_of_ble_eq_true rfl) rfl) ?_
   refine aF 10 rfl (EH (Qn.of (p:=(M.inc (k))) (hOk.sz_inc (y:=k) (by omega)))) AI ⟨aB rfl,rfl⟩ (qF (.of (-(M.inc (k))))) ?_
   refine aF 11 rfl (oR (Qn.of (p:=(-(M.inc (k)))) (qQ (hOk.sz_inc (y:=k) (by omega))))) Bx ⟨aB rfl,rfl⟩ (qF (.of (abv (-(M.inc (k)))))) ?_
   refine aF 12 rfl (uO (hJ.r _ (aT (rs:=rs) (k:=k) (by omega))).1.qn (Qn.of (p:=(abv (-(M.inc (k))))) (cQ (qQ (hOk.sz_inc (y:=k) (by omega))) (by omega)))) tO ⟨aB rfl,aB rfl,rfl⟩ (.one (tv (.bool (decide ((aR rs (k)).l.q=(abv (-(M.inc (k))))))))) ?_
   refine WD.split (t:=40) rfl rfl (fun h3=>?_) (fun h3=>?_)
   ·refine df 13 ?_;refine df 14 ?_;refine dv 15 ?_;refine aI 16 ?_;refine dv 17 ?_;refine dv 18 ?_;refine dv 19 ?_
    refine cM 20 ([.v (.bool (Fr4.of M.cap).s),sU false (Fr4.of M.cap).x,.v (.bool (Fr4.of M.cap).t),sU false (Fr4.of M.cap).y,.v (.int .i64 ((M.b:Nat):Int)),.v (.int .i64 ((M.w:Nat):Int))]) rfl ?_
    refine dv 21 ?_;refine dv 22 ?_;refine dv 23 ?_;refine cM 24 ([fM (yrs M N)]) rfl ?_;refine dv 25 ?_;refine dv 26 ?_
    refine cM 27 (bV (Fr4.of (M.inc (k)),Fr4.of (M.ring (k)))) (aP (f:=bV) (z:=8) (o:=0) cV (eB (M:=M) (N:=N) (y:=k) (by omega)) (Nat.le_of_ble_eq_true rfl) rfl) ?_
    refine aF 28 rfl (Fl (b:=.of (M.ring (k))) (Qn.of (p:=M.cap) hOk.cap) (Qn.of (p:=(M.inc (k))) (hOk.sz_inc (y:=k) (by omega)))) AJ ⟨aB rfl,aB rfl,rfl⟩ (qF (.of (M.cap*abv (M.inc (k))))) ?_
    refine aF 29 rfl (uO (hJ.r _ (aT (rs:=rs) (k:=k) (by omega))).2.1.qn (Qn.of (p:=(M.cap*(abv (M.inc (k))))) (pL hOk.cap (cQ (hOk.sz_inc (y:=k) (by omega)) (by omega))))) tO ⟨aB rfl,aB rfl,rfl⟩ (.one (tv (.bool (decide ((aR rs (k)).m.q=(M.cap*(abv (M.inc (k))))))))) ?_
    refine WD.split (t:=57) rfl rfl (fun h4=>?_) (fun h4=>?_)
    ·refine df 30 ?_;refine df 31 ?_;refine aJ ?_
     exact⟨(),trivial,aG h0 [] _ _ (by decide) ⟨rfl,rfl,rfl,rfl,fQ (by simp only[Mx.rowJ,decide_eq_false h1,decide_eq_true h2,decide_eq_true h3,decide_eq_true h4] <;> first | rfl | simp),trivial⟩ rfl⟩
    refine df 30 ?_;refine df 31 ?_;refine aJ ?_
    exact⟨(),trivial,aG h0 [] _ _ (by decide) ⟨rfl,rfl,rfl,rfl,fQ (by simp only[Mx.rowJ,decide_eq_false h1,decide_eq_true h2,decide_eq_true h3,decide_eq_false h4] <;> first | rfl | simp),trivial⟩ rfl⟩
   refine df 13 ?_;refine df 14 ?_;refine aC 15 ?_;refine aC 16 ?_;refine aC 17 ?_;refine aC 18 ?_;refine aC 19 ?_;refine aC 20 ?_;refine aC 21 ?_;refine aC 22 ?_
   refine aC 23 ?_;refine aC 24 ?_;refine aC 25 ?_;refine aC 26 ?_;refine aC 27 ?_;refine aC 28 ?_;refine aC 29 ?_;refine aC 30 ?_;refine df 31 ?_;refine aJ ?_
   exact⟨(),trivial,aG h0 [] _ _ (by decide) ⟨rfl,rfl,rfl,rfl,fQ (by simp only[Mx.rowJ,decide_eq_false h1,decide_eq_true h2,decide_eq_false h3] <;> first | rfl | simp),trivial⟩ rfl⟩
  refine lL rfl (fun h5=>?_) (fun h5=>?_)
  ·refine sq ?_;refine rl ?_;refine o1 ?_;refine nl ?_;refine rt ?_;exact eL (.inl rfl) rfl (by rw[kD (k:=k) (by omega) (Xa h5),Bool.and_false])
  refine sk ?_;refine rl ?_;refine o1 ?_;refine WL.cast (t:=60) (u':=.int .i64 ((k+1:Nat):Int)) rfl (aH (by omega)) ?_
  refine o1 ?_;refine nl ?_;exact⟨k+1,by omega,⟨by omega,lJ hk.2 (Wz h5)⟩,aG h0 [] _ _ (by decide) ⟨rfl,rfl,rfl,rfl,trivial⟩ rfl⟩
 refine ex ?_;refine sq ?_;refine rl ?_;refine o1 ?_;refine nl ?_;refine rt ?_
 exact eL (.inl rfl) rfl (by rw[decide_eq_true (show rs.length=N by omega),lV (k:=k) (by omega) hk.2];rfl)
theorem SH {xs:List Fr4}(hx:∀x∈xs,x.ok) (hl:xs.length≤1099511627776) (hs:∀k,Sz 68719476736 (fS ((xs.take k).map Fr4.q))):aE false Tryz.prog 101 [] [.one (.t (sQ false xs))] (aN (qF (.of (fS (xs.map Fr4.q))))):=by
 refine bC Tryz.func101 rfl Tryz.ntmps101 rfl aA rfl fun N9 w9 c0 h0=>?_
 have hz:∀x∈xs,Sz 68719476736 x.q:=fun x h=>(show Qn x x.q from⟨hx x h,rfl⟩).sz
 have h00:((0:Int):Rat)=(fS ((xs.take 0).map Fr4.q)):=by simp[fS]
 refine sq ?_;refine rl ?_;refine al 0 ?_;refine nl ?_;refine sq ?_;refine rl ?_;refine ca (lW (z:=0) (by omega) (by omega)) yD ⟨a1 rfl,rfl⟩ (qF (.of ((0:Int):Rat))) ?_
 refine al 1 ?_;refine st ?_;refine nl ?_;refine sq ?_;refine sq ?_;refine rl ?_;(iterate 3 refine o1 ?_);refine nl ?_;refine bl ?_
 refine lp (γ:=Nat) (fun k=>bS [(2,.one (.pt 0 0)),(3,.one (.pt 1 0)),(7,.one (.t (sQ false xs))),(8,.one (tv (.int .i64 ((xs.length:Nat):Int)))),(9,.one (tv (.int .i64 ((k:Nat):Int))))]) (fun k=>[(⟨26,0,[tv (.bool false),tv (.slice none 0 0),tv (.bool false),tv (.slice none 0 0)]⟩:Ob),⟨26,0,((Fr4.of (fS ((xs.take k).map Fr4.q))).tr false).map .t⟩].map some) (fun k=>k≤xs.length∧True) (fun k=>xs.length-k) 0 ⟨Nat.zero_le _,trivial⟩ (aG h0 [0,1] _ _ (by decide) ⟨rfl,rfl,rfl,rfl,rfl,trivial⟩ ⟨oe rfl rfl,aQ (congrArg (fun q=>some (⟨26,0,((Fr4.of q).tr false).map .t⟩:Ob)) h00),rfl⟩) fun k hk=>?_
 have hsz:Sz 68719476736 (fS ((xs.take k).map Fr4.q)):=hs k
 refine sq ?_;refine rl ?_;refine o1 ?_;refine nl ?_;refine sq ?_;refine bP rfl (fun h1=>?_) (fun h1=>?_)
 ·refine sk ?_;refine sq ?_;refine bl ?_;refine sq ?_;refine rl ?_;refine o1 ?_;refine cW ((fF xs (k)).tr false) (uN xs (k:=k) (by omega)) ?_
  refine al 2 ?_;refine st ?_;refine nl ?_;refine rd [0,1,2] (fun i=>[4].contains i) mixed ?_
  refine aI 0 ?_;refine aI 1 ?_;refine aF 2 rfl (eD (⟨hx _ (fJ (by omega)),rfl⟩:Qn (fF xs (k)) (fF xs (k)).q)) gJ ⟨aB rfl,rfl⟩ (qF (.of (fF xs (k)).q)) ?_
  refine aF 3 rfl (EW hsz (hz _ (fJ (by omega)))) wE ⟨aB rfl,aB rfl,rfl⟩ (qF (.of ((fS ((xs.take k).map Fr4.q))+(fF xs (k)).q))) ?_
  refine dst 4 ?_;refine aJ ?_;refine rl ?_;refine o1 ?_;refine WL.cast (t:=17) (u':=.int .i64 ((k+1:Nat):Int)) rfl (aH (by omega)) ?_
  refine o1 ?_;refine nl ?_;have hst:(fS ((xs.take (k+1)).map Fr4.q))=(fS ((xs.take k).map Fr4.q))+(fF xs (k)).q:=by rw[rP (by omega)];exact sL _ _
  exact⟨k+1,by omega,⟨by omega,trivial⟩,aG h0 [0,1] _ _ (by decide) ⟨rfl,rfl,rfl,rfl,rfl,trivial⟩ ⟨oe rfl rfl,aQ (congrArg (fun q=>some (⟨26,0,((Fr4.of q).tr false).map .t⟩:Ob)) hst.symm),rfl⟩⟩
 refine ex ?_;refine sq ?_;refine rl ?_;refine ld ?_;refine st ?_;refine nl ?_;refine rt ?_
 exact en (.inl rfl) rfl (aO (.agg (.cons (.id rfl) (.cons (.id rfl) (.cons (.id rfl) (.cons (.id rfl) .nil)))))) (by decide) (fun h=>by cases h) (by rw[List.take_of_length_le (by omega)];rfl)
theorem wF {rs:List Rf}{us:List Uf}{dl:Uf→Bool}{fd:FuncId}{fst caps:List Tr}(hok:CallOk Tryz.prog fd) (hd:∀u∈us,aE true Tryz.prog fd [] (cP fst++[.agg ((fR false u).map .t)]++cP caps) (aN (.one (tv (.bool (dl u)))))) (hJ:JOk rs us):aE true Tryz.prog 50 [] [.agg (([gS rs,kI us]:List Tr).map .t),.one (.t (.f fd fst caps))] (aN (qO (cI us dl))):=by
 refine bC Tryz.func50 rfl Tryz.ntmps50 rfl aA rfl fun N9 w9 c0 h0=>?_
 have h9u:=hJ.ul
 have h00:((0:Int):Rat)=(cI (us.take 0) dl):=by simp[cI,fS]
 refine sq ?_;refine rl ?_;refine bx 0 ?_;refine al 1 ?_;refine nl ?_;refine sq ?_;refine rl ?_;refine iI 2 (uG) Fm rfl ?_;refine al 4 ?_;refine st ?_;refine nl ?_;refine sq ?_
 refine sq ?_;refine rl ?_;refine o1 ?_;refine ld ?_;refine o1 ?_;refine o1 ?_;refine nl ?_;refine bl ?_
 refine lp (γ:=Nat) (fun k=>bS [(1,.one (.t (.f fd fst caps))),(4,.one (.pt 0 0)),(5,.one (.pt 1 0)),(10,.one (.t (kI us))),(11,.one (tv (.int .i64 ((us.length:Nat):Int)))),(12,.one (tv (.int .i64 ((k:Nat):Int))))]) (fun k=>[(⟨26,0,[tv (.bool false),tv (.slice none 0 0),tv (.bool false),tv (.slice none 0 0)]⟩:Ob),⟨26,0,[tv (.bool (aL (cI (us.take k) dl).num)),.sl 2 0 (dg 4294967296 (cI (us.take k) dl).num.natAbs).length,tv (.bool false),.sl 3 0 (dg 4294967296 (cI (us.take k) dl).den).length]⟩,⟨109,1,(aV (dg 4294967296 (cI (us.take k) dl).num.natAbs)).map .t⟩,⟨109,1,(aV (dg 4294967296 (cI (us.take k) dl).den)).map .t⟩].map some) (fun k=>k≤us.length∧True) (fun k=>us.length-k) 0 ⟨Nat.zero_le _,trivial⟩ (aG h0 [1,4,2,3] _ _ (by decide) ⟨rfl,rfl,rfl,rfl,rfl,rfl,trivial⟩ ⟨oe rfl rfl,oe rfl (congrArg (fun q:Rat=>some (⟨26,0,[tv (.bool (aL q.num)),.sl 2 0 (dg 4294967296 q.num.natAbs).length,tv (.bool false),.sl 3 0 (dg 4294967296 q.den).length]⟩:Ob)) h00),aQ (congrArg (fun q:Rat=>some (⟨109,1,(aV (dg 4294967296 q.num.natAbs)).map .t⟩:Ob)) h00),aQ (congrArg (fun q:Rat=>some (⟨109,1,(aV (dg 4294967296 q.den)).map .t⟩:Ob)) h00),rfl⟩) fun k hk=>?_
 have hsz:Sz 68719476736 (cI (us.take k) dl):=(kY hJ dl k).mono (by omega)
 refine sq ?_;refine rl ?_;refine o1 ?_;refine nl ?_;refine sq ?_;refine bP rfl (fun h1=>?_) (fun h1=>?_)
 ·refine sk ?_;refine sq ?_;refine bl ?_;refine sq ?_;refine rl ?_;refine o1 ?_
  refine cW ((fR false) (bZ us (k))) (aP (f:=(fR false)) (z:=14) (o:=0) (fE false) (dS (us:=us) (k:=k) (by omega)) (Nat.le_of_ble_eq_true rfl) rfl) ?_
  refine al 4 ?_;refine st ?_;refine nl ?_;refine sq ?_;refine rl ?_;refine o1 ?_;refine ld ?_
  refine ce 5 [.agg ((fR false (bZ us (k))).map .t)] rfl (hd (bZ us (k)) (dZ (by omega))) hok ⟨rfl,rfl⟩ ?_
  refine nl ?_;refine lL rfl (fun h2=>?_) (fun h2=>?_)
  ·refine rl ?_;refine ld ?_;refine o1 ?_;refine ld ?_
   refine iI 5 (qK (a:=.of (cI (us.take k) dl)) (Qn.of hsz) (hJ.u _ (dZ (us:=us) (k:=k) (by omega))).1.qn) tJ ⟨NB rfl (.cons .t (.cons (.sl rfl rfl (cC _ _ rfl) (aY _)) (.cons .t (.cons (.sl rfl rfl (cC _ _ rfl) (aY _)) .nil)))),aB rfl,rfl⟩ ?_
   refine st ?_;refine nl ?_;refine rl ?_;refine o1 ?_;refine WL.cast (t:=23) (u':=.int .i64 ((k+1:Nat):Int)) rfl (aH (by omega)) ?_
   refine o1 ?_;refine nl ?_;have hst:(cI (us.take (k+1)) dl)=(cI (us.take k) dl)+(bZ us (k)).n.q:=(vX (by omega)).trans (if_pos h2)
   exact⟨k+1,by omega,⟨by omega,trivial⟩,aG h0 [0,1,5,6] _ _ (by decide) ⟨rfl,rfl,rfl,rfl,rfl,rfl,trivial⟩ ⟨oe rfl rfl,oe rfl (congrArg (fun q:Rat=>some (⟨26,0,[tv (.bool (aL q.num)),.sl 5 0 (dg 4294967296 q.num.natAbs).length,tv (.bool false),.sl 6 0 (dg 4294967296 q.den).length]⟩:Ob)) hst.symm),aQ (congrArg (fun q:Rat=>some (⟨109,1,(aV (dg 4294967296 q.num.natAbs)).map .t⟩:Ob)) hst.symm),aQ (congrArg (fun q:Rat=>some (⟨109,1,(aV (dg 4294967296 q.den)).map .t⟩:Ob)) hst.symm),rfl⟩⟩
  refine sk ?_;refine rl ?_;refine o1 ?_;refine WL.cast (t:=23) (u':=.int .i64 ((k+1:Nat):Int)) rfl (aH (by omega)) ?_
  refine o1 ?_;refine nl ?_;have hst:(cI (us.take (k+1)) dl)=(cI (us.take k) dl):=(vX (by omega)).trans (if_neg (by rw[h2];decide))
  exact⟨k+1,by omega,⟨by omega,trivial⟩,aG h0 [0,1,2,3] _ _ (by decide) ⟨rfl,rfl,rfl,rfl,rfl,rfl,trivial⟩ ⟨oe rfl rfl,oe rfl (congrArg (fun q:Rat=>some (⟨26,0,[tv (.bool (aL q.num)),.sl 2 0 (dg 4294967296 q.num.natAbs).length,tv (.bool false),.sl 3 0 (dg 4294967296 q.den).length]⟩:Ob)) hst.symm),aQ (congrArg (fun q:Rat=>some (⟨109,1,(aV (dg 4294967296 q.num.natAbs)).map .t⟩:Ob)) hst.symm),aQ (congrArg (fun q:Rat=>some (⟨109,1,(aV (dg 4294967296 q.den)).map .t⟩:Ob)) hst.symm),rfl⟩⟩
 refine ex ?_;refine sq ?_;refine rl ?_;refine ld ?_;refine st ?_;refine nl ?_;refine rt ?_;have hkk:us.take k=us:=List.take_of_length_le (by omega)
 exact en (.inl rfl) rfl (aO (.agg (.cons (.id rfl) (.cons (.sl (trs:=aV (dg 4294967296 (cI (us.take k) dl).num.natAbs)) rfl rfl (bB _) (aY _)) (.cons (.id rfl) (.cons (.sl (trs:=aV (dg 4294967296 (cI (us.take k) dl).den)) rfl rfl (bB _) (aY _)) .nil)))))) (by decide) (fun _=>by rw[hkk];exact mU _) (by rw[hkk];rfl)
theorem NM {u:Uf}{y:Int}:aE true Tryz.prog 51 [] [.agg ((fR false u).map .t),.one (.t (.p false 3 [.v (.int .i64 y)]))] (aN (.one (tv (.bool (decide (u.v=y)))))):=by
 refine bC Tryz.func51 rfl Tryz.ntmps51 rfl aA rfl fun N9 w9 c0 h0=>?_
 refine WP.sub (pJ (i:=1) rfl rfl) ?_;refine sq ?_;refine rl ?_;refine bx 0 ?_;refine o1 ?_;refine nl ?_;refine sq ?_;refine rl ?_;refine o1 ?_;refine ld ?_
 refine cW ([.v (.int .i64 y)]) rfl ?_;refine o1 ?_;refine o1 ?_;refine nl ?_;refine rt ?_;exact en (.inl rfl) rfl (aO (bL _)) (by decide) (fun _=>trivial) rfl
theorem SI {rs:List Rf}{us:List Uf}{y:Int}(hJ:JOk rs us):aE true Tryz.prog 18 [] [.agg (([gS rs,kI us]:List Tr).map .t),.one (tv (.int .i64 y))] (aN (qO ((Mx.ofJ us y)))):=by
 refine bC Tryz.func18 rfl Tryz.ntmps18 rfl aA rfl fun N9 w9 c0 h0=>?_
 refine sq ?_;refine rl ?_;refine bx 0 ?_;refine bx 1 ?_;refine WL.sub (xB (i:=3) (k:=1) (t:=3) (l:=[.v (.int .i64 y)]) rfl rfl rfl (.one .sl)) ?_;refine al 2 ?_;refine nl ?_
 refine sq ?_;refine rl ?_;refine ld ?_;refine o1 ?_
 refine iI 3 (wF (rs:=rs) (dl:=fun u=>decide (u.v=y)) (fst:=[]) (caps:=[.p false 3 [.v (.int .i64 y)]]) VZ (fun u _=>NM (u:=u) (y:=y)) hJ) Tp ⟨aB rfl,a1 rfl,rfl⟩ ?_
 refine st ?_;refine nl ?_;refine rt ?_
 exact en (.inl rfl) rfl (aO (.agg (.cons (.id rfl) (.cons (.sl (trs:=aV (dg 4294967296 (Mx.ofJ us y).num.natAbs)) rfl rfl (bB _) (aY _)) (.cons (.id rfl) (.cons (.sl (trs:=aV (dg 4294967296 (Mx.ofJ us y).den)) rfl rfl (bB _) (aY _)) .nil)))))) (by decide) (fun _=>mU _) rfl
theorem NO {u:Uf}{y:Int}:aE true Tryz.prog 53 [] [.agg ((fR false u).map .t),.one (.t (.p false 3 [.v (.int .i64 y)]))] (aN (.one (tv (.bool (decide (u.y=y)))))):=by
 refine bC Tryz.func53 rfl Tryz.ntmps53 rfl aA rfl fun N9 w9 c0 h0=>?_
 refine WP.sub (pJ (i:=1) rfl rfl) ?_;refine sq ?_;refine rl ?_;refine bx 0 ?_;refine o1 ?_;refine nl ?_;refine sq ?_;refine rl ?_;refine o1 ?_;refine ld ?_
 refine cW ([.v (.int .i64 y)]) rfl ?_;refine o1 ?_;refine o1 ?_;refine nl ?_;refine rt ?_;exact en (.inl rfl) rfl (aO (bL _)) (by decide) (fun _=>trivial) rfl
theorem Dz {rs:List Rf}{us:List Uf}{y:Int}(hJ:JOk rs us):aE true Tryz.prog 20 [] [.agg (([gS rs,kI us]:List Tr).map .t),.one (tv (.int .i64 y))] (aN (qO ((Mx.inJ us y)))):=by
 refine bC Tryz.func20 rfl Tryz.ntmps20 rfl aA rfl fun N9 w9 c0 h0=>?_
 refine sq ?_;refine rl ?_;refine bx 0 ?_;refine bx 1 ?_;refine WL.sub (xB (i:=3) (k:=1) (t:=3) (l:=[.v (.int .i64 y)]) rfl rfl rfl (.one .sl)) ?_;refine al 2 ?_;refine nl ?_
 refine sq ?_;refine rl ?_;refine ld ?_;refine o1 ?_
 refine iI 3 (wF (rs:=rs) (dl:=fun u=>decide (u.y=y)) (fst:=[]) (caps:=[.p false 3 [.v (.int .i64 y)]]) WA (fun u _=>NO (u:=u) (y:=y)) hJ) Tp ⟨aB rfl,a1 rfl,rfl⟩ ?_
 refine st ?_;refine nl ?_;refine rt ?_
 exact en (.inl rfl) rfl (aO (.agg (.cons (.id rfl) (.cons (.sl (trs:=aV (dg 4294967296 (Mx.inJ us y).num.natAbs)) rfl rfl (bB _) (aY _)) (.cons (.id rfl) (.cons (.sl (trs:=aV (dg 4294967296 (Mx.inJ us y).den)) rfl rfl (bB _) (aY _)) .nil)))))) (by decide) (fun _=>mU _) rfl
theorem Xb {a b c:Fr4}{p q r:Rat}(ha:Qn a p) (hb:Qn b q) (hc:Qn c r) (hp:Sz 17179869184 p) (hq:Sz 17179869184 q) (hr:Sz 17179869184 r):aE false Tryz.prog 101 [] [.one (.t (sQ false [a,b,c]))] (aN (qF (.of (p+q+r)))):=by
 obtain⟨ha,rfl⟩:=ha
 obtain⟨hb,rfl⟩:=hb
 obtain⟨hc,rfl⟩:=hc
 have h:=SH (xs:=[a,b,c]) (by simp[ha,hb,hc]) (by simp) (fun k=>by
  have h0:Sz 2 (0:Rat):=(kX (z:=0) (by omega) (by omega)).mono (by omega)
  match k with
  | 0=>exact h0.mono (by omega)
  | 1=>exact(show Sz 68719476736 (0+a.q) from(gY h0 hp).mono (by omega))
  | 2=>exact(show Sz 68719476736 (0+a.q+b.q) from(gY (gY h0 hp) hq).mono (by omega))
  | k+3=>
   rw[List.take_of_length_le (by simp)]
   exact(show Sz 68719476736 (0+a.q+b.q+c.q) from(gY (gY (gY h0 hp) hq) hr).mono (by omega)))
 rwa[show fS ([a,b,c].map Fr4.q)=a.q+b.q+c.q from SF _ _ _]at h
theorem Tq {M:Mx}{N:Nat}{rs:List Rf}{us:List Uf}(hOk:M.Ok N) (hJ:JOk rs us) (hl:rs.length=N):aE true Tryz.prog 56 [] [.one (.t (.p false 112 (jC M N rs us)))] (aN (.one (tv (.bool ((List.range N).all (M.vinJ N rs us)))))):=by
 refine bC Tryz.func56 rfl Tryz.ntmps56 rfl aA rfl fun N9 w9 c0 h0=>?_
 have h9l:=cK M N;have h9r:=hJ.rl;have h9u:=hJ.ul;have h9n:=hOk.n;have h9b:=hOk.b;have h9w:=hOk.w
 refine sq ?_;refine rl ?_;refine o1 ?_;refine nl ?_;refine sq ?_;refine sq ?_;refine rl ?_;(iterate 4 refine o1 ?_);refine cW ([gS rs]) rfl ?_;refine o1 ?_;refine o1 ?_;refine nl ?_
 refine bl ?_
 refine lp (γ:=Nat) (fun k=>bS [(0,.one (.t (.p false 112 (jC M N rs us)))),(10,.one (.t (gS rs))),(11,.one (tv (.int .i64 ((rs.length:Nat):Int)))),(12,.one (tv (.int .i64 ((k:Nat):Int))))]) (fun k=>([]:List Ob).map some) (fun k=>k≤rs.length∧∀j,j<k→M.vinJ N rs us j=true) (fun k=>rs.length-k) 0 ⟨Nat.zero_le _,f0⟩ (aG h0 [] _ _ (by decide) ⟨rfl,rfl,rfl,rfl,trivial⟩ rfl) fun k hk=>?_
 refine sq ?_;refine rl ?_;refine o1 ?_;refine nl ?_;refine sq ?_;refine bP rfl (fun h1=>?_) (fun h1=>?_)
 ·refine sk ?_;refine sq ?_;refine bl ?_;refine sq ?_;refine rl ?_;refine o1 ?_;refine o1 ?_
  refine cW ((jR false) (aR rs (k))) (aP (f:=(jR false)) (z:=24) (o:=0) (jL false) (iC (rs:=rs) (k:=k) (by omega)) (Nat.le_of_ble_eq_true rfl) rfl) ?_
  refine al 0 ?_;refine o1 ?_;refine st ?_;refine nl ?_;refine sq ?_;refine rd [0] (fun i=>[14].contains i) mixed ?_
  refine dv 0 ?_;refine dv 1 ?_;refine dv 2 ?_;refine cM 3 ([fM (yrs M N)]) rfl ?_;refine dv 4 ?_;refine WD.cast (t:=21) (u':=.int .i64 ((N:Nat):Int)) rfl (aH (by rw[cK])) ?_
  refine dv 5 ?_;refine dv 6 ?_;refine dv 7 ?_;refine dv 8 ?_;refine dv 9 ?_;refine dv 10 ?_;refine cM 11 ([.v (.int .i64 ((M.w:Nat):Int))]) rfl ?_;refine dv 12 ?_;refine dv 13 ?_
  refine WD.cast (t:=30) (u':=.bool (M.lateJ N k)) rfl (congrArg Value.bool rfl) ?_;refine cR 14 (by kernel_rfl) rfl rfl aA rfl (by trivial) ?_ (fun h=>by first | rfl | cases h)
  refine aJ ?_;refine sq ?_
  refine md (γ:=Unit) (fun _=>bS [(0,.one (.t (.p false 112 (jC M N rs us)))),(3,.one (tv (.int .i64 ((k:Nat):Int)))),(4,.one (.pt 0 0)),(10,.one (.t (gS rs))),(11,.one (tv (.int .i64 ((rs.length:Nat):Int)))),(12,.one (tv (.int .i64 ((k:Nat):Int)))),(59,.one (tv (.bool (M.vin5 N rs k))))]) (fun _=>([⟨66,0,(jR false (aR rs (k))).map .t⟩]:List Ob).map some) (fun _=>True) ?_ fun _ _=>?_
  ·refine rl ?_;refine o1 ?_;refine ld ?_
   refine ca (fZ (hJ.r _ (aT (rs:=rs) (k:=k) (by omega))).2.2.2.2.1.qn) kL ⟨aB rfl,rfl⟩ (.one (tv (.int .i64 (aR rs (k)).e.q.num.sign))) ?_
   refine o1 ?_;refine o1 ?_;refine WL.split (t:=35) rfl (fun h2=>?_) (fun h2=>?_)
   ·(iterate 4 refine bF ?_);refine o1 ?_;refine o1 ?_;(iterate 7 refine bF ?_);refine o1 ?_;refine o1 ?_;(iterate 8 refine bF ?_);refine o1 ?_;refine nl ?_
    exact⟨(),trivial,aG h0 [0] _ _ (by decide) ⟨rfl,rfl,rfl,rfl,rfl,rfl,fQ (by simp only[Mx.vin5,decide_eq_true h1,decide_eq_true h2] <;> first | rfl | simp),trivial⟩ ⟨aQ rfl,rfl⟩⟩
   refine o1 ?_;refine ld ?_;refine ca (fZ (hJ.r _ (aT (rs:=rs) (k:=k) (by omega))).2.2.2.2.2.qn) kL ⟨aB rfl,rfl⟩ (.one (tv (.int .i64 (aR rs (k)).c.q.num.sign))) ?_
   (iterate 3 refine o1 ?_);refine WL.split (t:=41) rfl (fun h3=>?_) (fun h3=>?_)
   ·(iterate 7 refine bF ?_);refine o1 ?_;refine o1 ?_;(iterate 8 refine bF ?_);refine o1 ?_;refine nl ?_
    exact⟨(),trivial,aG h0 [0] _ _ (by decide) ⟨rfl,rfl,rfl,rfl,rfl,rfl,fQ (by simp only[Mx.vin5,decide_eq_true h1,decide_eq_false h2,decide_eq_true h3] <;> first | rfl | simp),trivial⟩ ⟨aQ rfl,rfl⟩⟩
   refine o1 ?_;refine o1 ?_;refine WL.splitb (t:=43) rfl (fun h4=>?_) (fun h4=>?_)
   ·refine o1 ?_;refine ld ?_;refine ca (fZ (hJ.r _ (aT (rs:=rs) (k:=k) (by omega))).2.2.2.2.2.qn) kL ⟨aB rfl,rfl⟩ (.one (tv (.int .i64 (aR rs (k)).c.q.num.sign))) ?_
    (iterate 4 refine o1 ?_);refine WL.split (t:=50) rfl (fun h5=>?_) (fun h5=>?_)
    ·(iterate 8 refine bF ?_);refine o1 ?_;refine nl ?_
     exact⟨(),trivial,aG h0 [0] _ _ (by decide) ⟨rfl,rfl,rfl,rfl,rfl,rfl,fQ (by simp only[Mx.vin5,decide_eq_true h1,decide_eq_false h2,decide_eq_false h3,h4,decide_eq_true h5] <;> first | rfl | simp),trivial⟩ ⟨aQ rfl,rfl⟩⟩
    refine o1 ?_;refine WL.cast (t:=51) rfl (congrArg Value.bool h4) ?_;refine o1 ?_;refine o1 ?_;(iterate 4 refine bF ?_);refine o1 ?_;refine o1 ?_;refine nl ?_
    exact⟨(),trivial,aG h0 [0] _ _ (by decide) ⟨rfl,rfl,rfl,rfl,rfl,rfl,fQ (by simp only[Mx.vin5,decide_eq_true h1,decide_eq_false h2,decide_eq_false h3,h4,decide_eq_false h5] <;> first | rfl | simp),trivial⟩ ⟨aQ rfl,rfl⟩⟩
   (iterate 4 refine bF ?_);(iterate 4 refine o1 ?_);refine WL.cast (t:=51) rfl (congrArg Value.bool h4) ?_;(iterate 3 refine o1 ?_);refine ld ?_
   refine ca (fZ (hJ.r _ (aT (rs:=rs) (k:=k) (by omega))).2.2.2.2.1.qn) kL ⟨aB rfl,rfl⟩ (.one (tv (.int .i64 (aR rs (k)).e.q.num.sign))) ?_
   (iterate 3 refine o1 ?_);refine nl ?_
   exact⟨(),trivial,aG h0 [0] _ _ (by decide) ⟨rfl,rfl,rfl,rfl,rfl,rfl,fQ (by simp only[Mx.vin5,decide_eq_true h1,decide_eq_false h2,decide_eq_false h3,h4] <;> first | rfl | simp),trivial⟩ ⟨aQ rfl,rfl⟩⟩
  refine lL rfl (fun h6=>?_) (fun h6=>?_)
  ·refine sq ?_;refine rl ?_;refine o1 ?_;refine nl ?_;refine rt ?_;exact eL (.inl rfl) rfl ((kD (k:=k) (by omega) (by simp only[Mx.vinJ,h6] <;> first | rfl | simp)).symm)
  refine sk ?_;refine sq ?_;refine rd [0] (fun i=>[].contains i) mixed ?_
  refine dv 0 ?_;refine aI 1 ?_;refine dv 2 ?_;refine dv 3 ?_;refine dv 4 ?_;refine cM 5 ([gS rs,kI us]) rfl ?_;refine dv 6 ?_;refine dv 8 ?_;refine aI 9 ?_;refine dv 10 ?_
  refine aI 11 ?_;refine aF 7 rfl (SI (rs:=rs) (y:=((k:Nat):Int)) hJ) WB ⟨aB rfl,a1 rfl,rfl⟩ (qF (.of (Mx.ofJ us ((k:Nat):Int)))) ?_
  refine eZ (key:=1) 12 (by kernel_rfl) rfl rfl aA rfl ⟨rfl,trivial⟩ ?_
  refine jG (i:=72) (k:=1) (t:=26) (t':=49) (z:=4) (n:=3) (l:=[(.of (Mx.ofJ us ((k:Nat):Int))),(aR rs (k)).e,(aR rs (k)).c].flatMap (Fr4.tr false)) rfl rfl rfl rfl (.one .sl) (by rfl) (by rfl) ?_
  refine aF 13 rfl ((Xb (a:=(.of (Mx.ofJ us ((k:Nat):Int)))) (b:=(aR rs (k)).e) (c:=(aR rs (k)).c) (Qn.of (dF hJ _)) (hJ.r _ (aT (rs:=rs) (k:=k) (by omega))).2.2.2.2.1.qn (hJ.r _ (aT (rs:=rs) (k:=k) (by omega))).2.2.2.2.2.qn ((dF hJ _).mono (by omega)) ((hJ.r _ (aT (rs:=rs) (k:=k) (by omega))).2.2.2.2.1.2.1.mono (by omega)) ((hJ.r _ (aT (rs:=rs) (k:=k) (by omega))).2.2.2.2.2.2.1.mono (by omega)))) EX ⟨a1 rfl,rfl⟩ (qF (.of ((Mx.ofJ us ((k:Nat):Int))+(aR rs (k)).e.q+(aR rs (k)).c.q))) ?_
  refine aF 14 rfl (uO (hJ.r _ (aT (rs:=rs) (k:=k) (by omega))).1.qn (Qn.of (p:=((Mx.ofJ us ((k:Nat):Int))+(aR rs (k)).e.q+(aR rs (k)).c.q)) (dG (dG (dF hJ _) (hJ.r _ (aT (rs:=rs) (k:=k) (by omega))).2.2.2.2.1.2.1) (hJ.r _ (aT (rs:=rs) (k:=k) (by omega))).2.2.2.2.2.2.1))) tO ⟨aB rfl,aB rfl,rfl⟩ (.one (tv (.bool (decide ((aR rs (k)).l.q=((Mx.ofJ us ((k:Nat):Int))+(aR rs (k)).e.q+(aR rs (k)).c.q)))))) ?_
  refine WD.split (t:=74) rfl rfl (fun h7=>?_) (fun h7=>?_)
  ·refine df 15 ?_;refine aJ ?_;refine iH rfl ?_;refine sk ?_;refine rl ?_;refine o1 ?_;refine WL.cast (t:=76) (u':=.int .i64 ((k+1:Nat):Int)) rfl (aH (by omega)) ?_
   refine o1 ?_;refine nl ?_
   exact⟨k+1,by omega,⟨by omega,lJ hk.2 (by simp only[Mx.vinJ,h6,decide_eq_true h7] <;> first | rfl | simp)⟩,aG h0 [] _ _ (by decide) ⟨rfl,rfl,rfl,rfl,trivial⟩ rfl⟩
  refine df 15 ?_;refine aJ ?_;refine gL rfl ?_;refine sq ?_;refine rl ?_;refine o1 ?_;refine nl ?_;refine rt ?_
  exact eL (.inl rfl) rfl ((kD (k:=k) (by omega) (by simp only[Mx.vinJ,decide_eq_false h7,Bool.and_false])).symm)
 refine ex ?_;refine sq ?_;refine rl ?_;refine o1 ?_;refine nl ?_;refine rt ?_;exact eL (.inl rfl) rfl ((lV (k:=k) (by omega) hk.2).symm)
theorem NP {M:Mx}{N:Nat}{rs:List Rf}{us:List Uf}(hOk:M.Ok N) (hJ:JOk rs us) (hl:rs.length=N):aE true Tryz.prog 57 [] [.one (.t (.p false 112 (jC M N rs us)))] (aN (.one (tv (.bool ((List.range N).all (M.capJ rs us)))))):=by
 refine bC Tryz.func57 rfl Tryz.ntmps57 rfl aA rfl fun N9 w9 c0 h0=>?_
 have h9l:=cK M N;have h9r:=hJ.rl;have h9u:=hJ.ul;have h9n:=hOk.n;have h9b:=hOk.b;have h9w:=hOk.w
 refine sq ?_;refine rl ?_;refine o1 ?_;refine nl ?_;refine sq ?_;refine sq ?_;refine rl ?_;(iterate 4 refine o1 ?_);refine cW ([gS rs]) rfl ?_;refine o1 ?_;refine o1 ?_;refine nl ?_
 refine bl ?_
 refine lp (γ:=Nat) (fun k=>bS [(0,.one (.t (.p false 112 (jC M N rs us)))),(11,.one (.t (gS rs))),(12,.one (tv (.int .i64 ((rs.length:Nat):Int)))),(13,.one (tv (.int .i64 ((k:Nat):Int))))]) (fun k=>([]:List Ob).map some) (fun k=>k≤rs.length∧∀j,j<k→M.capJ rs us j=true) (fun k=>rs.length-k) 0 ⟨Nat.zero_le _,f0⟩ (aG h0 [] _ _ (by decide) ⟨rfl,rfl,rfl,rfl,trivial⟩ rfl) fun k hk=>?_
 refine sq ?_;refine rl ?_;refine o1 ?_;refine nl ?_;refine sq ?_;refine bP rfl (fun h1=>?_) (fun h1=>?_)
 ·refine sk ?_;refine sq ?_;refine bl ?_;refine sq ?_;refine rl ?_;refine o1 ?_;refine o1 ?_
  refine cW ((jR false) (aR rs (k))) (aP (f:=(jR false)) (z:=24) (o:=0) (jL false) (iC (rs:=rs) (k:=k) (by omega)) (Nat.le_of_ble_eq_true rfl) rfl) ?_
  refine al 0 ?_;refine o1 ?_;refine st ?_;refine nl ?_
  refine md (γ:=Unit) (fun _=>bS [(0,.one (.t (.p false 112 (jC M N rs us)))),(3,.one (tv (.int .i64 ((k:Nat):Int)))),(4,.one (.pt 0 0)),(5,.one (.pt 1 0)),(6,.one (.pt 2 0)),(11,.one (.t (gS rs))),(12,.one (tv (.int .i64 ((rs.length:Nat):Int)))),(13,.one (tv (.int .i64 ((k:Nat):Int))))]) (fun _=>([⟨66,0,(jR false (aR rs (k))).map .t⟩,⟨26,0,((Fr4.of (Mx.inJ us ((k:Nat):Int))).tr false).map .t⟩,⟨26,0,((Fr4.of (M.ring (k))).tr false).map .t⟩]:List Ob).map some) (fun _=>True) ?_ fun _ _=>?_
  ·refine rd [0] (fun i=>[17].contains i) mixed ?_
   refine dv 0 ?_;refine dv 1 ?_;refine dv 2 ?_;refine cM 3 ([gS rs,kI us]) rfl ?_;refine dv 4 ?_;refine dv 6 ?_;refine dv 7 ?_;refine dv 8 ?_;refine cM 9 ([fM (yrs M N)]) rfl ?_
   refine dv 10 ?_;refine dv 11 ?_;refine dv 12 ?_
   refine cM 13 ((Fr4.of (M.ring (k))).tr false) (aP (f:=bV) (z:=8) (o:=4) cV (eB (M:=M) (N:=N) (y:=k) (by omega)) (Nat.le_of_ble_eq_true rfl) rfl) ?_
   refine WO.three (i:=5) (j:=14) (m:=15) (by kernel_rfl) ?_ ?_ ?_
   ·refine cX 5 rfl (Dz (rs:=rs) (y:=((k:Nat):Int)) hJ) Lm ⟨aB rfl,a1 rfl,rfl⟩ (qF (.of (Mx.inJ us ((k:Nat):Int)))) ?_;refine WO.two (i:=14) (j:=15) (by kernel_rfl) ?_ ?_
    ·refine bI (key:=1) 14 rfl rfl aA rfl ⟨rfl,trivial⟩ ?_;refine eN (key:=2) 15 (by kernel_rfl) rfl rfl aA rfl ⟨rfl,trivial⟩ ?_
     refine aX 16 (by kernel_rfl) rfl rfl aA rfl rfl rfl rfl ⟨rfl,trivial⟩ ?_
     refine dst 17 ?_;refine aJ ?_;exact⟨(),trivial,aG h0 [0,1,2] _ _ (by decide) ⟨rfl,rfl,rfl,rfl,rfl,rfl,rfl,rfl,trivial⟩ ⟨aQ rfl,oe rfl rfl,oe rfl rfl,rfl⟩⟩
    refine bI (key:=1) 15 rfl rfl aA rfl ⟨rfl,trivial⟩ ?_;refine eN (key:=2) 14 (by kernel_rfl) rfl rfl aA rfl ⟨rfl,trivial⟩ ?_
    refine aX 16 (by kernel_rfl) rfl rfl aA rfl rfl rfl rfl ⟨rfl,trivial⟩ ?_
    refine dst 17 ?_;refine aJ ?_;exact⟨(),trivial,aG h0 [0,2,1] _ _ (by decide) ⟨rfl,rfl,rfl,rfl,rfl,rfl,rfl,rfl,trivial⟩ ⟨aQ rfl,oe rfl rfl,oe rfl rfl,rfl⟩⟩
   ·refine bI (key:=1) 14 rfl rfl aA rfl ⟨rfl,trivial⟩ ?_;refine WO.two (i:=5) (j:=15) (by kernel_rfl) ?_ ?_
    ·refine cX 5 rfl (Dz (rs:=rs) (y:=((k:Nat):Int)) hJ) Lm ⟨aB rfl,a1 rfl,rfl⟩ (qF (.of (Mx.inJ us ((k:Nat):Int)))) ?_
     refine eN (key:=2) 15 (by kernel_rfl) rfl rfl aA rfl ⟨rfl,trivial⟩ ?_
     refine aX 16 (by kernel_rfl) rfl rfl aA rfl rfl rfl rfl ⟨rfl,trivial⟩ ?_
     refine dst 17 ?_;refine aJ ?_;exact⟨(),trivial,aG h0 [0,1,2] _ _ (by decide) ⟨rfl,rfl,rfl,rfl,rfl,rfl,rfl,rfl,trivial⟩ ⟨aQ rfl,oe rfl rfl,oe rfl rfl,rfl⟩⟩
    refine bI (key:=2) 15 rfl rfl aA rfl ⟨rfl,trivial⟩ ?_
    refine aF 5 rfl (Dz (rs:=rs) (y:=((k:Nat):Int)) hJ) Lm ⟨aB rfl,a1 rfl,rfl⟩ (qF (.of (Mx.inJ us ((k:Nat):Int)))) ?_
    refine aX 16 (by kernel_rfl) rfl rfl aA rfl rfl rfl rfl ⟨rfl,trivial⟩ ?_
    refine dst 17 ?_;refine aJ ?_;exact⟨(),trivial,aG h0 [0,1,2] _ _ (by decide) ⟨rfl,rfl,rfl,rfl,rfl,rfl,rfl,rfl,trivial⟩ ⟨aQ rfl,oe rfl rfl,oe rfl rfl,rfl⟩⟩
   refine bI (key:=1) 15 rfl rfl aA rfl ⟨rfl,trivial⟩ ?_;refine WO.two (i:=5) (j:=14) (by kernel_rfl) ?_ ?_
   ·refine cX 5 rfl (Dz (rs:=rs) (y:=((k:Nat):Int)) hJ) Lm ⟨aB rfl,a1 rfl,rfl⟩ (qF (.of (Mx.inJ us ((k:Nat):Int)))) ?_
    refine eN (key:=2) 14 (by kernel_rfl) rfl rfl aA rfl ⟨rfl,trivial⟩ ?_
    refine aX 16 (by kernel_rfl) rfl rfl aA rfl rfl rfl rfl ⟨rfl,trivial⟩ ?_
    refine dst 17 ?_;refine aJ ?_;exact⟨(),trivial,aG h0 [0,2,1] _ _ (by decide) ⟨rfl,rfl,rfl,rfl,rfl,rfl,rfl,rfl,trivial⟩ ⟨aQ rfl,oe rfl rfl,oe rfl rfl,rfl⟩⟩
   refine bI (key:=2) 14 rfl rfl aA rfl ⟨rfl,trivial⟩ ?_
   refine aF 5 rfl (Dz (rs:=rs) (y:=((k:Nat):Int)) hJ) Lm ⟨aB rfl,a1 rfl,rfl⟩ (qF (.of (Mx.inJ us ((k:Nat):Int)))) ?_
   refine aX 16 (by kernel_rfl) rfl rfl aA rfl rfl rfl rfl ⟨rfl,trivial⟩ ?_
   refine dst 17 ?_;refine aJ ?_;exact⟨(),trivial,aG h0 [0,2,1] _ _ (by decide) ⟨rfl,rfl,rfl,rfl,rfl,rfl,rfl,rfl,trivial⟩ ⟨aQ rfl,oe rfl rfl,oe rfl rfl,rfl⟩⟩
  refine md (γ:=Unit) (fun _=>bS [(0,.one (.t (.p false 112 (jC M N rs us)))),(11,.one (.t (gS rs))),(12,.one (tv (.int .i64 ((rs.length:Nat):Int)))),(13,.one (tv (.int .i64 ((k:Nat):Int)))),(64,.one (tv (.bool (!M.capJ rs us k))))]) (fun _=>([]:List Ob).map some) (fun _=>True) ?_ fun _ _=>?_
  ·refine rd [0,1,2] (fun i=>[].contains i) mixed ?_
   refine dv 0 ?_;refine aI 1 ?_;refine aI 2 ?_
   refine aF 3 rfl (uO (hJ.r _ (aT (rs:=rs) (k:=k) (by omega))).2.2.1.qn (Qn.of (p:=(Mx.inJ us ((k:Nat):Int))) (dF hJ _))) tO ⟨aB rfl,aB rfl,rfl⟩ (.one (tv (.bool (decide ((aR rs (k)).u.q=(Mx.inJ us ((k:Nat):Int))))))) ?_
   refine WD.split (t:=35) rfl rfl (fun h2=>?_) (fun h2=>?_)
   ·refine df 4 ?_;refine df 5 ?_;refine aI 6 ?_;refine aI 7 ?_;refine dv 9 ?_;refine aI 10 ?_
    refine aF 8 rfl (qK (Qn.of (p:=(Mx.inJ us ((k:Nat):Int))) (dF hJ _)) (Qn.of (p:=(M.ring (k))) (hOk.sz_ring (y:=k) (by omega)))) tJ ⟨aB rfl,aB rfl,rfl⟩ (qF (.of ((Mx.inJ us ((k:Nat):Int))+(M.ring (k))))) ?_
    refine aF 11 rfl (Aa (Qn.of (p:=((Mx.inJ us ((k:Nat):Int))+(M.ring (k)))) (dG (dF hJ _) (hOk.sz_ring (y:=k) (by omega)))) (hJ.r _ (aT (rs:=rs) (k:=k) (by omega))).2.1.qn) Fy ⟨aB rfl,aB rfl,rfl⟩ (.one (tv (.int .i64 (((Mx.inJ us ((k:Nat):Int))+(M.ring (k)))-(aR rs (k)).m.q).num.sign))) ?_
    refine df 12 ?_;refine df 13 ?_;refine df 14 ?_;refine WD.split (t:=46) rfl rfl (fun h3=>?_) (fun h3=>?_)
    ·refine aC 15 ?_;refine aC 16 ?_;refine aC 17 ?_;refine aC 18 ?_;refine aC 19 ?_;refine aC 20 ?_;refine aC 21 ?_;refine aC 22 ?_;refine aC 23 ?_;refine aC 24 ?_
     refine aC 26 ?_;refine aC 27 ?_;refine aC 25 ?_;refine aC 28 ?_;refine aC 29 ?_;refine aC 30 ?_;refine aC 31 ?_;refine df 32 ?_;refine aJ ?_
     exact⟨(),trivial,aG h0 [] _ _ (by decide) ⟨rfl,rfl,rfl,rfl,fQ (by simp only[Mx.capJ,decide_eq_true h1,decide_eq_true h2,decide_eq_true h3] <;> first | rfl | simp),trivial⟩ rfl⟩
    refine dv 15 ?_;refine aI 16 ?_;refine dv 17 ?_;refine dv 18 ?_;refine dv 19 ?_;refine cM 20 ([fM (yrs M N)]) rfl ?_;refine dv 21 ?_;refine dv 22 ?_;refine dv 23 ?_
    refine cM 24 ((Fr4.of (M.inc (k))).tr false) (aP (f:=bV) (z:=8) (o:=0) cV (eB (M:=M) (N:=N) (y:=k) (by omega)) (Nat.le_of_ble_eq_true rfl) rfl) ?_
    refine aI 26 ?_;refine aI 27 ?_;refine aF 25 rfl (oR (Qn.of (p:=(M.inc (k))) (hOk.sz_inc (y:=k) (by omega)))) Bx ⟨aB rfl,rfl⟩ (qF (.of (abv (M.inc (k))))) ?_
    refine aF 28 rfl (qK (Qn.of (p:=(Mx.inJ us ((k:Nat):Int))) (dF hJ _)) (Qn.of (p:=(M.ring (k))) (hOk.sz_ring (y:=k) (by omega)))) tJ ⟨aB rfl,aB rfl,rfl⟩ (qF (.of ((Mx.inJ us ((k:Nat):Int))+(M.ring (k))))) ?_
    refine aF 29 rfl (mZ (Qn.of (p:=(abv (M.inc (k)))) (cQ (hOk.sz_inc (y:=k) (by omega)) (by omega))) (Qn.of (p:=((Mx.inJ us ((k:Nat):Int))+(M.ring (k)))) (dG (dF hJ _) (hOk.sz_ring (y:=k) (by omega))))) pV ⟨aB rfl,aB rfl,rfl⟩ (qF (.of ((abv (M.inc (k)))-((Mx.inJ us ((k:Nat):Int))+(M.ring (k)))))) ?_
    refine aF 30 rfl (uO (hJ.r _ (aT (rs:=rs) (k:=k) (by omega))).2.2.2.1.qn (Qn.of (p:=((abv (M.inc (k)))-((Mx.inJ us ((k:Nat):Int))+(M.ring (k))))) (Fx (cQ (hOk.sz_inc (y:=k) (by omega)) (by omega)) (dG (dF hJ _) (hOk.sz_ring (y:=k) (by omega)))))) tO ⟨aB rfl,aB rfl,rfl⟩ (.one (tv (.bool (decide ((aR rs (k)).t.q=((abv (M.inc (k)))-((Mx.inJ us ((k:Nat):Int))+(M.ring (k))))))))) ?_
    refine WD.split (t:=62) rfl rfl (fun h4=>?_) (fun h4=>?_)
    ·refine df 31 ?_;refine df 32 ?_;refine aJ ?_
     exact⟨(),trivial,aG h0 [] _ _ (by decide) ⟨rfl,rfl,rfl,rfl,fQ (by simp only[Mx.capJ,decide_eq_true h1,decide_eq_true h2,decide_eq_false h3,decide_eq_true h4] <;> first | rfl | simp),trivial⟩ rfl⟩
    refine df 31 ?_;refine df 32 ?_;refine aJ ?_
    exact⟨(),trivial,aG h0 [] _ _ (by decide) ⟨rfl,rfl,rfl,rfl,fQ (by simp only[Mx.capJ,decide_eq_true h1,decide_eq_true h2,decide_eq_false h3,decide_eq_false h4] <;> first | rfl | simp),trivial⟩ rfl⟩
   refine df 4 ?_;refine df 5 ?_;refine aC 6 ?_;refine aC 7 ?_;refine aC 9 ?_;refine aC 10 ?_;refine aC 8 ?_;refine aC 11 ?_;refine aC 12 ?_;refine df 13 ?_;refine df 14 ?_
   refine aC 15 ?_;refine aC 16 ?_;refine aC 17 ?_;refine aC 18 ?_;refine aC 19 ?_;refine aC 20 ?_;refine aC 21 ?_;refine aC 22 ?_;refine aC 23 ?_;refine aC 24 ?_
   refine aC 26 ?_;refine aC 27 ?_;refine aC 25 ?_;refine aC 28 ?_;refine aC 29 ?_;refine aC 30 ?_;refine aC 31 ?_;refine df 32 ?_;refine aJ ?_
   exact⟨(),trivial,aG h0 [] _ _ (by decide) ⟨rfl,rfl,rfl,rfl,fQ (by simp only[Mx.capJ,decide_eq_true h1,decide_eq_false h2] <;> first | rfl | simp),trivial⟩ rfl⟩
  refine lL rfl (fun h5=>?_) (fun h5=>?_)
  ·refine sq ?_;refine rl ?_;refine o1 ?_;refine nl ?_;refine rt ?_;exact eL (.inl rfl) rfl ((kD (k:=k) (by omega) (Xa h5)).symm)
  refine sk ?_;refine rl ?_;refine o1 ?_;refine WL.cast (t:=65) (u':=.int .i64 ((k+1:Nat):Int)) rfl (aH (by omega)) ?_
  refine o1 ?_;refine nl ?_;exact⟨k+1,by omega,⟨by omega,lJ hk.2 (Wz h5)⟩,aG h0 [] _ _ (by decide) ⟨rfl,rfl,rfl,rfl,trivial⟩ rfl⟩
 refine ex ?_;refine sq ?_;refine rl ?_;refine o1 ?_;refine nl ?_;refine rt ?_;exact eL (.inl rfl) rfl ((lV (k:=k) (by omega) hk.2).symm)
theorem NQ {u:Uf}{v y:Int}:aE true Tryz.prog 145 [] [.agg ((fR false u).map .t),.one (.t (.p false 3 [.v (.int .i64 v)])),.one (.t (.p false 3 [.v (.int .i64 y)]))] (aN (.one (tv (.bool (decide (u.v=v)&&decide (y<u.y)))))):=by
 refine bC Tryz.func145 rfl Tryz.ntmps145 rfl aA rfl fun N9 w9 c0 h0=>?_
 refine WP.sub ((pJ (i:=1) rfl rfl).trans (pJ (i:=2) rfl rfl)) ?_;refine sq ?_;refine rl ?_;refine bx 0 ?_;refine o1 ?_;refine nl ?_;refine sq ?_;refine rl ?_;refine o1 ?_;refine ld ?_
 refine cW ([.v (.int .i64 v)]) rfl ?_;refine o1 ?_;refine o1 ?_;refine WL.split (t:=9) rfl (fun h1=>?_) (fun h1=>?_)
 ·refine o1 ?_;refine ld ?_;refine cW ([.v (.int .i64 y)]) rfl ?_;(iterate 3 refine o1 ?_);refine nl ?_;refine rt ?_
  exact eL (.inl rfl) rfl (by simp only[decide_eq_true h1] <;> first | rfl | simp)
 (iterate 4 refine bF ?_);refine o1 ?_;refine o1 ?_;refine nl ?_;refine rt ?_;exact eL (.inl rfl) rfl (by simp only[decide_eq_false h1] <;> first | rfl | simp)
theorem EY {M:Mx}{N:Nat}{rs:List Rf}{us:List Uf}(hOk:M.Ok N) (hJ:JOk rs us) (hl:rs.length=N){v y:Int}(h1:0≤v) (h2:v<(N:Int)):aE true Tryz.prog 102 [] [.one (.t (.p false 112 (jC M N rs us))),.one (tv (.int .i64 v)),.one (tv (.int .i64 y))] (aN (.one (tv (.bool (!decide ((Mx.remJ rs us v y).num.sign≤0)))))):=by
 refine bC Tryz.func102 rfl Tryz.ntmps102 rfl aA rfl fun N9 w9 c0 h0=>?_
 have h9l:=cK M N;have h9r:=hJ.rl;have h9u:=hJ.ul;have h9n:=hOk.n;have h9b:=hOk.b;have h9w:=hOk.w
 refine sq ?_;refine rl ?_;refine bx 0 ?_;refine bx 1 ?_;refine o1 ?_;refine nl ?_;refine sq ?_;refine rl ?_;(iterate 3 refine o1 ?_);refine cW ([gS rs,kI us]) rfl ?_
 refine WL.sub (xB (i:=4) (k:=0) (t:=3) (l:=[.v (.int .i64 v)]) rfl rfl rfl (.one .sl)) ?_;refine WL.sub (xB (i:=5) (k:=1) (t:=3) (l:=[.v (.int .i64 y)]) rfl rfl rfl (.one .sl)) ?_
 refine o1 ?_;refine WL.sub ((pJ (i:=4) rfl rfl).trans (pJ (i:=5) rfl rfl)) ?_
 refine ca (wF (rs:=rs) (dl:=fun u:Uf=>decide (u.v=v)&&decide (y<u.y)) (fst:=[]) (caps:=[.p false 3 [.v (.int .i64 v)],.p false 3 [.v (.int .i64 y)]]) SJ (fun u _=>NQ (u:=u) (v:=v) (y:=y)) hJ) Tp ⟨aB rfl,a1 rfl,rfl⟩ (qF (.of (cI us fun u:Uf=>decide (u.v=v)&&decide (y<u.y)))) ?_
 refine al 2 ?_;refine st ?_;refine nl ?_;refine sq ?_;refine rd [2] (fun i=>[23].contains i) mixed ?_
 refine aI 0 ?_;refine dv 1 ?_;refine dv 2 ?_;refine dv 3 ?_;refine dv 4 ?_;refine cM 5 ([gS rs]) rfl ?_;refine cM 6 ([.v (.int .i64 v)]) rfl ?_
 refine WD.cast (t:=20) (u':=.int .i64 ((v.toNat:Nat):Int)) rfl (aH (by omega)) ?_
 refine dv 7 ?_;refine dv 8 ?_
 refine cM 9 ((aR rs (v.toNat)).e.tr false) (aP (f:=(jR false)) (z:=24) (o:=16) (jL false) (iC (rs:=rs) (k:=v.toNat) (by omega)) (Nat.le_of_ble_eq_true rfl) rfl) ?_
 refine dv 10 ?_;refine dv 11 ?_;refine dv 12 ?_;refine dv 13 ?_;refine cM 14 ([gS rs]) rfl ?_;refine cM 15 ([.v (.int .i64 v)]) rfl ?_
 refine WD.cast (t:=29) (u':=.int .i64 ((v.toNat:Nat):Int)) rfl (aH (by omega)) ?_
 refine dv 16 ?_;refine dv 17 ?_
 refine cM 18 ((aR rs (v.toNat)).c.tr false) (aP (f:=(jR false)) (z:=24) (o:=20) (jL false) (iC (rs:=rs) (k:=v.toNat) (by omega)) (Nat.le_of_ble_eq_true rfl) rfl) ?_
 refine eZ (key:=3) 19 (by kernel_rfl) rfl rfl aA rfl ⟨rfl,trivial⟩ ?_
 refine jG (i:=33) (k:=3) (t:=26) (t':=49) (z:=4) (n:=3) (l:=[(.of (cI us fun u:Uf=>decide (u.v=v)&&decide (y<u.y))),(aR rs (v.toNat)).e,(aR rs (v.toNat)).c].flatMap (Fr4.tr false)) rfl rfl rfl rfl (.one .sl) (by rfl) (by rfl) ?_
 refine aF 20 rfl ((Xb (a:=(.of (cI us fun u:Uf=>decide (u.v=v)&&decide (y<u.y)))) (b:=(aR rs (v.toNat)).e) (c:=(aR rs (v.toNat)).c) (Qn.of (dF hJ _)) (hJ.r _ (aT (rs:=rs) (k:=v.toNat) (by omega))).2.2.2.2.1.qn (hJ.r _ (aT (rs:=rs) (k:=v.toNat) (by omega))).2.2.2.2.2.qn ((dF hJ _).mono (by omega)) ((hJ.r _ (aT (rs:=rs) (k:=v.toNat) (by omega))).2.2.2.2.1.2.1.mono (by omega)) ((hJ.r _ (aT (rs:=rs) (k:=v.toNat) (by omega))).2.2.2.2.2.2.1.mono (by omega)))) EX ⟨a1 rfl,rfl⟩ (qF (.of ((cI us fun u:Uf=>decide (u.v=v)&&decide (y<u.y))+(aR rs (v.toNat)).e.q+(aR rs (v.toNat)).c.q))) ?_
 refine aF 21 rfl (fZ (Qn.of (p:=((cI us fun u:Uf=>decide (u.v=v)&&decide (y<u.y))+(aR rs (v.toNat)).e.q+(aR rs (v.toNat)).c.q)) (dG (dG (dF hJ _) (hJ.r _ (aT (rs:=rs) (k:=v.toNat) (by omega))).2.2.2.2.1.2.1) (hJ.r _ (aT (rs:=rs) (k:=v.toNat) (by omega))).2.2.2.2.2.2.1))) kL ⟨aB rfl,rfl⟩ (.one (tv (.int .i64 ((cI us fun u:Uf=>decide (u.v=v)&&decide (y<u.y))+(aR rs (v.toNat)).e.q+(aR rs (v.toNat)).c.q).num.sign))) ?_
 refine df 22 ?_;refine cR 23 (by kernel_rfl) rfl rfl aA rfl (by trivial) ?_ (fun h=>by first | rfl | cases h)
 refine aJ ?_;refine rt ?_;exact eL (.inl rfl) rfl (VX _)
theorem NR {u:Uf}{y t:Int}:aE true Tryz.prog 146 [] [.agg ((fR false u).map .t),.one (.t (.p false 3 [.v (.int .i64 y)])),.one (.t (.p false 3 [.v (.int .i64 t)]))] (aN (.one (tv (.bool (decide (u.y=y)&&decide (max u.v y≤t)))))):=by
 refine bC Tryz.func146 rfl Tryz.ntmps146 rfl aA rfl fun N9 w9 c0 h0=>?_
 refine WP.sub ((pJ (i:=1) rfl rfl).trans (pJ (i:=2) rfl rfl)) ?_;refine sq ?_;refine rl ?_;refine bx 0 ?_;refine o1 ?_;refine nl ?_;refine sq ?_;refine rl ?_;refine o1 ?_;refine ld ?_
 refine cW ([.v (.int .i64 y)]) rfl ?_;refine o1 ?_;refine o1 ?_;refine WL.split (t:=9) rfl (fun h1=>?_) (fun h1=>?_)
 ·refine o1 ?_;refine ld ?_;refine cW ([.v (.int .i64 y)]) rfl ?_;refine o1 ?_;refine cW ([.v (.int .i64 t)]) rfl ?_;(iterate 3 refine o1 ?_);refine nl ?_;refine rt ?_
  exact eL (.inl rfl) rfl (by simp only[decide_eq_true h1] <;> first | rfl | simp)
 (iterate 6 refine bF ?_);refine o1 ?_;refine o1 ?_;refine nl ?_;refine rt ?_;exact eL (.inl rfl) rfl (by simp only[decide_eq_false h1] <;> first | rfl | simp)
theorem SK {M:Mx}{N:Nat}{rs:List Rf}{us:List Uf}(hOk:M.Ok N) (hJ:JOk rs us) (hl:rs.length=N){y t:Int}(h1:0≤y) (h2:y<(N:Int)):aE true Tryz.prog 103 [] [.one (.t (.p false 112 (jC M N rs us))),.one (tv (.int .i64 y)),.one (tv (.int .i64 t))] (aN (.one (tv (.bool (decide (0≤(M.fulJ us y t-(aR rs y.toNat).m.q).num.sign)))))):=by
 refine bC Tryz.func103 rfl Tryz.ntmps103 rfl aA rfl fun N9 w9 c0 h0=>?_
 have h9l:=cK M N;have h9r:=hJ.rl;have h9u:=hJ.ul;have h9n:=hOk.n;have h9b:=hOk.b;have h9w:=hOk.w
 refine sq ?_;refine rl ?_;refine bx 0 ?_;refine bx 1 ?_;refine o1 ?_;refine nl ?_;refine sq ?_;refine rl ?_;(iterate 3 refine o1 ?_);refine cW ([gS rs,kI us]) rfl ?_
 refine WL.sub (xB (i:=4) (k:=0) (t:=3) (l:=[.v (.int .i64 y)]) rfl rfl rfl (.one .sl)) ?_;refine WL.sub (xB (i:=5) (k:=1) (t:=3) (l:=[.v (.int .i64 t)]) rfl rfl rfl (.one .sl)) ?_
 refine o1 ?_;refine WL.sub ((pJ (i:=4) rfl rfl).trans (pJ (i:=5) rfl rfl)) ?_
 refine ca (wF (rs:=rs) (dl:=fun u:Uf=>decide (u.y=y)&&decide (max u.v y≤t)) (fst:=[]) (caps:=[.p false 3 [.v (.int .i64 y)],.p false 3 [.v (.int .i64 t)]]) SL (fun u _=>NR (u:=u) (y:=y) (t:=t)) hJ) Tp ⟨aB rfl,a1 rfl,rfl⟩ (qF (.of (cI us fun u:Uf=>decide (u.y=y)&&decide (max u.v y≤t)))) ?_
 refine al 2 ?_;refine st ?_;refine nl ?_;refine sq ?_;refine rd [2] (fun i=>[21].contains i) mixed ?_
 refine aI 0 ?_;refine dv 1 ?_;refine dv 2 ?_;refine dv 3 ?_;refine cM 4 ([fM (yrs M N)]) rfl ?_;refine cM 5 ([.v (.int .i64 y)]) rfl ?_
 refine WD.cast (t:=19) (u':=.int .i64 ((y.toNat:Nat):Int)) rfl (aH (by omega)) ?_
 refine dv 6 ?_;refine dv 7 ?_
 refine cM 8 ((Fr4.of (M.ring (y.toNat))).tr false) (aP (f:=bV) (z:=8) (o:=4) cV (eB (M:=M) (N:=N) (y:=y.toNat) (by omega)) (Nat.le_of_ble_eq_true rfl) rfl) ?_
 refine dv 10 ?_;refine dv 11 ?_;refine dv 12 ?_;refine dv 13 ?_;refine cM 14 ([gS rs]) rfl ?_;refine cM 15 ([.v (.int .i64 y)]) rfl ?_
 refine WD.cast (t:=29) (u':=.int .i64 ((y.toNat:Nat):Int)) rfl (aH (by omega)) ?_
 refine dv 16 ?_;refine dv 17 ?_
 refine cM 18 ((aR rs (y.toNat)).m.tr false) (aP (f:=(jR false)) (z:=24) (o:=4) (jL false) (iC (rs:=rs) (k:=y.toNat) (by omega)) (Nat.le_of_ble_eq_true rfl) rfl) ?_
 refine aF 9 rfl (qK (Qn.of (p:=(cI us fun u:Uf=>decide (u.y=y)&&decide (max u.v y≤t))) (dF hJ _)) (Qn.of (p:=(M.ring (y.toNat))) (hOk.sz_ring (y:=y.toNat) (by omega)))) tJ ⟨aB rfl,aB rfl,rfl⟩ (qF (.of ((cI us fun u:Uf=>decide (u.y=y)&&decide (max u.v y≤t))+(M.ring (y.toNat))))) ?_
 refine aF 19 rfl (Aa (Qn.of (p:=((cI us fun u:Uf=>decide (u.y=y)&&decide (max u.v y≤t))+(M.ring (y.toNat)))) (dG (dF hJ _) (hOk.sz_ring (y:=y.toNat) (by omega)))) (hJ.r _ (aT (rs:=rs) (k:=y.toNat) (by omega))).2.1.qn) Fy ⟨aB rfl,aB rfl,rfl⟩ (.one (tv (.int .i64 (((cI us fun u:Uf=>decide (u.y=y)&&decide (max u.v y≤t))+(M.ring (y.toNat)))-(aR rs (y.toNat)).m.q).num.sign))) ?_
 refine df 20 ?_;refine cR 21 (by kernel_rfl) rfl rfl aA rfl (by trivial) ?_ (fun h=>by first | rfl | cases h)
 refine aJ ?_;refine rt ?_;exact eL (.inl rfl) rfl (rfl)
theorem IK {M:Mx}{N:Nat}{rs:List Rf}{us:List Uf}(hOk:M.Ok N) (hJ:JOk rs us) (hl:rs.length=N):aE true Tryz.prog 58 [] [.one (.t (.p false 112 (jC M N rs us)))] (aN (.one (tv (.bool ((List.range N).all fun v=>(List.range N).all (M.spentJ N rs us v)))))):=by
 refine bC Tryz.func58 rfl Tryz.ntmps58 rfl aA rfl fun N9 w9 c0 h0=>?_
 have h9l:=cK M N;have h9r:=hJ.rl;have h9u:=hJ.ul;have h9n:=hOk.n;have h9b:=hOk.b;have h9w:=hOk.w
 refine sq ?_;refine rl ?_;refine o1 ?_;refine nl ?_;refine sq ?_;refine sq ?_;refine rl ?_;(iterate 4 refine o1 ?_);refine cW ([gS rs]) rfl ?_;refine o1 ?_;refine o1 ?_;refine nl ?_
 refine bl ?_
 refine lp (γ:=Nat) (fun k=>bS [(0,.one (.t (.p false 112 (jC M N rs us)))),(10,.one (tv (.int .i64 ((rs.length:Nat):Int)))),(11,.one (tv (.int .i64 ((k:Nat):Int))))]) (fun k=>([]:List Ob).map some) (fun k=>k≤rs.length∧∀j,j<k→(fun v=>(List.range N).all (M.spentJ N rs us v)) j=true) (fun k=>rs.length-k) 0 ⟨Nat.zero_le _,f0⟩ (aG h0 [] _ _ (by decide) ⟨rfl,rfl,rfl,trivial⟩ rfl) fun k hk=>?_
 refine sq ?_;refine rl ?_;refine o1 ?_;refine nl ?_;refine sq ?_;refine bP rfl (fun h1=>?_) (fun h1=>?_)
 ·refine sk ?_;refine sq ?_;refine bl ?_;refine sq ?_;refine rl ?_;refine o1 ?_;refine o1 ?_;refine nl ?_;refine sq ?_;refine rl ?_;(iterate 4 refine o1 ?_);refine cW ([gS rs]) rfl ?_
  refine o1 ?_;refine o1 ?_;refine nl ?_;refine bl ?_
  refine lp (γ:=Nat) (fun i=>bS [(0,.one (.t (.p false 112 (jC M N rs us)))),(3,.one (tv (.int .i64 ((k:Nat):Int)))),(10,.one (tv (.int .i64 ((rs.length:Nat):Int)))),(11,.one (tv (.int .i64 ((k:Nat):Int)))),(19,.one (tv (.int .i64 ((rs.length:Nat):Int)))),(20,.one (tv (.int .i64 ((i:Nat):Int))))]) (fun i=>([]:List Ob).map some) (fun i=>i≤rs.length∧∀j,j<i→M.spentJ N rs us k j=true) (fun i=>rs.length-i) 0 ⟨Nat.zero_le _,f0⟩ (aG h0 [] _ _ (by decide) ⟨rfl,rfl,rfl,rfl,rfl,rfl,trivial⟩ rfl) fun i hi=>?_
  refine sq ?_;refine rl ?_;refine o1 ?_;refine nl ?_;refine sq ?_;refine bP rfl (fun h2=>?_) (fun h2=>?_)
  ·refine sk ?_;refine sq ?_;refine bl ?_;refine sq ?_;refine rl ?_;refine o1 ?_;refine o1 ?_;refine nl ?_
   refine md (γ:=Unit) (fun _=>bS [(0,.one (.t (.p false 112 (jC M N rs us)))),(3,.one (tv (.int .i64 ((k:Nat):Int)))),(10,.one (tv (.int .i64 ((rs.length:Nat):Int)))),(11,.one (tv (.int .i64 ((k:Nat):Int)))),(19,.one (tv (.int .i64 ((rs.length:Nat):Int)))),(20,.one (tv (.int .i64 ((i:Nat):Int)))),(41,.one (tv (.bool (!M.spentJ N rs us k i))))]) (fun _=>([]:List Ob).map some) (fun _=>True) ?_ fun _ _=>?_
   ·refine rl ?_;(iterate 3 refine o1 ?_)
    refine ca (Tn hOk hJ (v:=((k:Nat):Int)) (y:=((i:Nat):Int))) To ⟨a1 rfl,a1 rfl,a1 rfl,rfl⟩ (.one (tv (.bool (M.win N ((k:Nat):Int) ((i:Nat):Int))))) ?_;refine o1 ?_
    refine WL.splitb (t:=27) rfl (fun h3=>?_) (fun h3=>?_)
    ·(iterate 3 refine o1 ?_)
     refine ca (EY hOk hJ hl (v:=((k:Nat):Int)) (y:=((i:Nat):Int)) (rH h3).1 (rH h3).2.1) EZ ⟨a1 rfl,a1 rfl,a1 rfl,rfl⟩ (.one (tv (.bool (!decide ((Mx.remJ rs us ((k:Nat):Int) ((i:Nat):Int)).num.sign≤0))))) ?_
     refine o1 ?_;refine o1 ?_;refine WL.splitb (t:=33) rfl (fun h4=>?_) (fun h4=>?_)
     ·(iterate 5 refine o1 ?_)
      refine ca (SK hOk hJ hl (y:=((i:Nat):Int)) (t:=(max ((k:Nat):Int) ((i:Nat):Int))) (by omega) (by omega)) SM ⟨a1 rfl,a1 rfl,a1 rfl,rfl⟩ (.one (tv (.bool (decide (0≤(M.fulJ us ((i:Nat):Int) (max ((k:Nat):Int) ((i:Nat):Int))-(aR rs i).m.q).num.sign))))) ?_
      refine WL.splitb (t:=39) rfl (fun h5=>?_) (fun h5=>?_)
      ·refine o1 ?_;refine o1 ?_;refine nl ?_
       exact⟨(),trivial,aG h0 [] _ _ (by decide) ⟨rfl,rfl,rfl,rfl,rfl,rfl,fQ (by simp only[Mx.spentJ,decide_eq_true h1,decide_eq_true h2,h3,h4,h5] <;> first | rfl | simp),trivial⟩ rfl⟩
      refine o1 ?_;refine o1 ?_;refine nl ?_
      exact⟨(),trivial,aG h0 [] _ _ (by decide) ⟨rfl,rfl,rfl,rfl,rfl,rfl,fQ (by simp only[Mx.spentJ,decide_eq_true h1,decide_eq_true h2,h3,h4,h5] <;> first | rfl | simp),trivial⟩ rfl⟩
     (iterate 7 refine bF ?_);refine o1 ?_;refine nl ?_
     exact⟨(),trivial,aG h0 [] _ _ (by decide) ⟨rfl,rfl,rfl,rfl,rfl,rfl,fQ (by simp only[Mx.spentJ,decide_eq_true h1,decide_eq_true h2,h3,h4] <;> first | rfl | simp),trivial⟩ rfl⟩
    (iterate 4 refine bF ?_);refine o1 ?_;refine o1 ?_;(iterate 7 refine bF ?_);refine o1 ?_;refine nl ?_
    exact⟨(),trivial,aG h0 [] _ _ (by decide) ⟨rfl,rfl,rfl,rfl,rfl,rfl,fQ (by simp only[Mx.spentJ,decide_eq_true h1,decide_eq_true h2,h3] <;> first | rfl | simp),trivial⟩ rfl⟩
   refine lL rfl (fun h6=>?_) (fun h6=>?_)
   ·refine sq ?_;refine rl ?_;refine o1 ?_;refine nl ?_;refine rt ?_;exact eL (.inl rfl) rfl ((kD (k:=k) (by omega) (kD (k:=i) (by omega) (Xa h6))).symm)
   refine sk ?_;refine rl ?_;refine o1 ?_;refine WL.cast (t:=42) (u':=.int .i64 ((i+1:Nat):Int)) rfl (aH (by omega)) ?_
   refine o1 ?_;refine nl ?_;exact⟨i+1,by omega,⟨by omega,lJ hi.2 (Wz h6)⟩,aG h0 [] _ _ (by decide) ⟨rfl,rfl,rfl,rfl,rfl,rfl,trivial⟩ rfl⟩
  refine ex ?_;refine rl ?_;refine o1 ?_;refine WL.cast (t:=43) (u':=.int .i64 ((k+1:Nat):Int)) rfl (aH (by omega)) ?_
  refine o1 ?_;refine nl ?_;exact⟨k+1,by omega,⟨by omega,lJ hk.2 (lV (k:=i) (by omega) hi.2)⟩,aG h0 [] _ _ (by decide) ⟨rfl,rfl,rfl,trivial⟩ rfl⟩
 refine ex ?_;refine sq ?_;refine rl ?_;refine o1 ?_;refine nl ?_;refine rt ?_;exact eL (.inl rfl) rfl ((lV (k:=k) (by omega) hk.2).symm)
theorem NS {M:Mx}{N:Nat}{rs:List Rf}{us:List Uf}(hOk:M.Ok N) (hJ:JOk rs us) (hl:rs.length=N){u:Uf}(hu:BF u.n∧BF u.p∧BF u.q) (hv:u.v<(N:Int)):aE true Tryz.prog 104 [] [.agg ((fR false u).map .t),.one (.t (.p false 110 [.p false 112 (jC M N rs us)]))] (aN (.one (tv (.bool ((List.range (max 0 u.v).toNat).any (M.oldJ N rs us u)))))):=by
 refine bC Tryz.func104 rfl Tryz.ntmps104 rfl aA rfl fun N9 w9 c0 h0=>?_
 have h9l:=cK M N;have h9r:=hJ.rl;have h9u:=hJ.ul;have h9n:=hOk.n;have h9b:=hOk.b;have h9w:=hOk.w
 refine WP.sub (pJ (i:=1) rfl rfl) ?_;refine sq ?_;refine rl ?_;refine bx 0 ?_;refine o1 ?_;refine nl ?_;refine sq ?_;refine sq ?_;refine rl ?_;refine o1 ?_;refine ld ?_;refine o1 ?_
 refine WL.cast (t:=7) (u':=.int .i64 (((max 0 u.v).toNat:Nat):Int)) rfl (aH (by omega)) ?_
 refine o1 ?_;refine nl ?_;refine bl ?_
 refine lp (γ:=Nat) (fun k=>bS [(1,.one (.ef (.p false 112 (jC M N rs us)::[]) 0)),(2,.one (.pt 0 0)),(7,.one (tv (.int .i64 (((max 0 u.v).toNat:Nat):Int)))),(8,.one (tv (.int .i64 ((k:Nat):Int))))]) (fun k=>[(⟨46,0,(fR false u).map .t⟩:Ob)].map some) (fun k=>k≤(max 0 u.v).toNat∧∀j,j<k→M.oldJ N rs us u j=false) (fun k=>(max 0 u.v).toNat-k) 0 ⟨Nat.zero_le _,f0⟩ (aG h0 [0] _ _ (by decide) ⟨rfl,rfl,rfl,rfl,trivial⟩ ⟨aQ rfl,rfl⟩) fun k hk=>?_
 refine sq ?_;refine rl ?_;refine o1 ?_;refine nl ?_;refine sq ?_;refine bP rfl (fun h1=>?_) (fun h1=>?_)
 ·refine sk ?_;refine sq ?_;refine bl ?_;refine sq ?_;refine rl ?_;refine o1 ?_;refine o1 ?_;refine nl ?_
  refine md (γ:=Unit) (fun _=>bS [(1,.one (.ef (.p false 112 (jC M N rs us)::[]) 0)),(2,.one (.pt 0 0)),(7,.one (tv (.int .i64 (((max 0 u.v).toNat:Nat):Int)))),(8,.one (tv (.int .i64 ((k:Nat):Int)))),(29,.one (tv (.bool (M.oldJ N rs us u k))))]) (fun _=>([⟨46,0,(fR false u).map .t⟩]:List Ob).map some) (fun _=>True) ?_ fun _ _=>?_
  ·refine rl ?_;refine o1 ?_;refine ld ?_;refine o1 ?_;refine ld ?_;refine o1 ?_;refine o1 ?_;refine WL.split (t:=16) rfl (fun h2=>?_) (fun h2=>?_)
   ·refine cW ([.p false 112 (jC M N rs us)]) rfl ?_;refine o1 ?_;refine o1 ?_;refine ld ?_
    refine ca (Tn hOk hJ (v:=((k:Nat):Int)) (y:=u.y)) To ⟨a1 rfl,a1 rfl,a1 rfl,rfl⟩ (.one (tv (.bool (M.win N ((k:Nat):Int) u.y)))) ?_;refine o1 ?_;refine o1 ?_
    refine WL.splitb (t:=23) rfl (fun h3=>?_) (fun h3=>?_)
    ·refine cW ([.p false 112 (jC M N rs us)]) rfl ?_;refine o1 ?_;refine o1 ?_;refine ld ?_
     refine ca (EY hOk hJ hl (v:=((k:Nat):Int)) (y:=u.y) (rH h3).1 (rH h3).2.1) EZ ⟨a1 rfl,a1 rfl,a1 rfl,rfl⟩ (.one (tv (.bool (!decide ((Mx.remJ rs us ((k:Nat):Int) u.y).num.sign≤0))))) ?_
     refine o1 ?_;refine nl ?_
     exact⟨(),trivial,aG h0 [0] _ _ (by decide) ⟨rfl,rfl,rfl,rfl,fQ (by simp only[Mx.oldJ,decide_eq_true h1,decide_eq_true h2,h3] <;> first | rfl | simp),trivial⟩ ⟨aQ rfl,rfl⟩⟩
    (iterate 5 refine bF ?_);refine o1 ?_;refine nl ?_
    exact⟨(),trivial,aG h0 [0] _ _ (by decide) ⟨rfl,rfl,rfl,rfl,fQ (by simp only[Mx.oldJ,decide_eq_true h1,decide_eq_true h2,h3] <;> first | rfl | simp),trivial⟩ ⟨aQ rfl,rfl⟩⟩
   (iterate 5 refine bF ?_);refine o1 ?_;refine o1 ?_;(iterate 5 refine bF ?_);refine o1 ?_;refine nl ?_
   exact⟨(),trivial,aG h0 [0] _ _ (by decide) ⟨rfl,rfl,rfl,rfl,fQ (by simp only[Mx.oldJ,decide_eq_true h1,decide_eq_false h2] <;> first | rfl | simp),trivial⟩ ⟨aQ rfl,rfl⟩⟩
  refine lL rfl (fun h4=>?_) (fun h4=>?_)
  ·refine sq ?_;refine rl ?_;refine o1 ?_;refine nl ?_;refine rt ?_;exact eL (.inl rfl) rfl ((BL (k:=k) (by omega) h4).symm)
  refine sk ?_;refine rl ?_;refine o1 ?_;refine WL.cast (t:=30) (u':=.int .i64 ((k+1:Nat):Int)) rfl (aH (by omega)) ?_
  refine o1 ?_;refine nl ?_;exact⟨k+1,by omega,⟨by omega,lJ hk.2 h4⟩,aG h0 [0] _ _ (by decide) ⟨rfl,rfl,rfl,rfl,trivial⟩ ⟨aQ rfl,rfl⟩⟩
 refine ex ?_;refine sq ?_;refine rl ?_;refine o1 ?_;refine nl ?_;refine rt ?_;exact eL (.inl rfl) rfl ((IH (k:=k) (by omega) hk.2).symm)
theorem BN {M:Mx}{N:Nat}{rs:List Rf}{us:List Uf}(hOk:M.Ok N) (hJ:JOk rs us) (hl:rs.length=N) (hv:∀u∈us,u.v<(N:Int)):aE true Tryz.prog 59 [] [.one (.t (.p false 112 (jC M N rs us)))] (aN (.one (tv (.bool (us.all fun u=> !(List.range (max 0 u.v).toNat).any (M.oldJ N rs us u)))))):=by
 refine bC Tryz.func59 rfl Tryz.ntmps59 rfl aA rfl fun N9 w9 c0 h0=>?_
 have h9l:=cK M N;have h9r:=hJ.rl;have h9u:=hJ.ul;have h9n:=hOk.n;have h9b:=hOk.b;have h9w:=hOk.w
 refine sq ?_;refine rl ?_;refine bx 0 ?_;refine o1 ?_;refine nl ?_;refine sq ?_;refine rl ?_;refine ld ?_;(iterate 3 refine o1 ?_);refine cW ([kI us]) rfl ?_
 refine WL.sub (xB (i:=1) (k:=0) (t:=110) (l:=[.p false 112 (jC M N rs us)]) rfl rfl rfl (.one .sl)) ?_;refine o1 ?_
 refine ca (Qe (fst:=[]) (caps:=[.p false 110 [.p false 112 (jC M N rs us)]]) SN (fun u hu=>NS hOk hJ hl (hJ.u u hu) (hv u hu)) (by have:=hJ.ul;omega)) NK ⟨a1 rfl,a1 rfl,rfl⟩ (.one (tv (.bool (us.any fun u=>(List.range (max 0 u.v).toNat).any (M.oldJ N rs us u))))) ?_
 refine o1 ?_;refine o1 ?_;refine nl ?_;refine rt ?_;exact eL (.inl rfl) rfl (BM us _)
theorem Qg:tI Tryz.prog 114 6:=⟨113,by kernel_rfl,.mk (by kernel_rfl) (by kernel_rfl)⟩
def BO:Nat→Nat
 | 0=>54
 | 1=>55
 | 2=>56
 | 3=>57
 | 4=>58
 | _=>59
def qL (M:Mx) (N:Nat) (rs:List Rf) (us:List Uf):Nat→Bool
 | 0=>decide (rs.length=N)&&(List.range N).all (M.rowJ rs)
 | 1=>us.all (M.useJ N)
 | 2=>(List.range N).all (M.vinJ N rs us)
 | 3=>(List.range N).all (M.capJ rs us)
 | 4=>(List.range N).all fun v=>(List.range N).all (M.spentJ N rs us v)
 | _=>us.all fun u=> !(List.range (max 0 u.v).toNat).any (M.oldJ N rs us u)
section
variable {M:Mx}{N:Nat}{rs:List Rf}{us:List Uf}
theorem SO:∀{k:Nat},k<6→([.t (.f 54 [] []),.t (.f 55 [] []),.t (.f 56 [] []),.t (.f 57 [] []),.t (.f 58 [] []),.t (.f 59 [] [])]:List AV)[k]? =some (.t (.f (BO k) [] []))
 | 0,_ | 1,_ | 2,_ | 3,_ | 4,_ | 5,_=>rfl
 | k+6,h=>by omega
theorem WC:∀{k:Nat},k<6→CallOk Tryz.prog (BO k)
 | 0,_=>WE
 | 1,_=>WF
 | 2,_=>WG
 | 3,_=>WH
 | 4,_=>WI
 | 5,_=>WJ
 | k+6,h=>by omega
theorem NT (hOk:M.Ok N) (hJ:JOk rs us):∀{k:Nat},k<6→(∀j,j<k→qL M N rs us j=true)→aE true Tryz.prog (BO k) [] [.one (.t (.p false 112 (jC M N rs us)))] (aN (.one (tv (.bool (qL M N rs us k))))):=by
 intro k hk h
 have hl:0<k→rs.length=N:=fun h0=>by
  have h1:=h 0 h0
  simp only[qL,Bool.and_eq_true,decide_eq_true_eq]at h1
  exact h1.1
 have hv:1<k→∀u∈us,u.v<(N:Int):=fun h0 u hu=>by
  have h1:=List.all_eq_true.1 (h 1 h0) u hu
  simp only[Mx.useJ,Bool.and_eq_true]at h1
  exact(rH h1.1).2.1
 match k with
 | 0=>exact NL hOk hJ
 | 1=>exact NJ hOk hJ
 | 2=>exact Tq hOk hJ (hl (by omega))
 | 3=>exact NP hOk hJ (hl (by omega))
 | 4=>exact IK hOk hJ (hl (by omega))
 | 5=>exact BN hOk hJ (hl (by omega)) (hv (by omega))
 | k+6=>omega
theorem SP (h:∀j,j<6→qL M N rs us j=true):M.judge N rs us=true:=by
 have h0:=h 0 (by omega);have h1:=h 1 (by omega);have h2:=h 2 (by omega);have h3:=h 3 (by omega);have h4:=h 4 (by omega);have h5:=h 5 (by omega)
 simp only[qL]at h0 h1 h2 h3 h4 h5
 rw[Bool.and_eq_true]at h0
 simp only[Mx.judge,h0.1,h0.2,h1,h2,h3,h4,h5,Bool.and_true]
theorem WK:∀{k:Nat},k<6→qL M N rs us k=false→M.judge N rs us=false
 | 0,_,h=>by
  simp only[qL]at h
  unfold Mx.judge
  rw[←Bool.and_assoc,h,Bool.false_and]
 | 1,_,h | 2,_,h | 3,_,h | 4,_,h | 5,_,h=>by
  simp only[qL]at h
  simp only[Mx.judge,h,Bool.false_and,Bool.and_false]
 | k+6,h,_=>by omega
end
theorem NU {c:Fr4}{bk fw:Int}{ys:List (Fr4×Fr4)}(hs:Sm c ys) (h:cY c bk fw ys=0):aE true Tryz.prog 35 [] [.agg ((c.tr false++[.v (.int .i64 bk),.v (.int .i64 fw)]:List Tr).map .t),.one (.t (fM ys))] (aN (.one (tv (.int .i64 0)))):=by
 have h9:=Je (bk:=bk) (fw:=fw) hs.c.1 (fun y hy=>⟨(hs.y y hy).1.1,(hs.y y hy).2.1⟩) hs.sz (by have:=hs.l;omega)
 rwa[h]at h9
theorem BP {M:Mx}{N:Nat}{rs:List Rf}{us:List Uf}(hOk:M.Ok N) (hJ:JOk rs us) (hsm:Sm (Fr4.of M.cap) (yrs M N)) (hm:cY (Fr4.of M.cap) ((M.b:Nat):Int) ((M.w:Nat):Int) (yrs M N)=0):aE true Tryz.prog 24 [] [.agg (((Fr4.of M.cap).tr false++[.v (.int .i64 ((M.b:Nat):Int)),.v (.int .i64 ((M.w:Nat):Int))]:List Tr).map .t),.one (.t (fM (yrs M N))),.agg (([gS rs,kI us]:List Tr).map .t)] (aN (.one (tv (.int .i64 (if M.judge N rs us=true then 0 else 270))))):=by
 refine bC Tryz.func24 rfl Tryz.ntmps24 rfl aA rfl fun N9 w9 c0 h0=>?_
 refine sq ?_;refine rl ?_;refine bx 0 ?_;refine bx 1 ?_;refine o1 ?_;refine nl ?_;refine sq ?_;refine sq ?_;refine rl ?_;refine ld ?_;refine o1 ?_
 refine ca (NU hsm hm) Tb ⟨aB rfl,a1 rfl,rfl⟩ (.one (tv (.int .i64 0))) ?_;refine o1 ?_;refine nl ?_;refine sq ?_;refine rl ?_;refine o1 ?_;refine o1 ?_;refine nl ?_
 refine bP rfl (fun h1=>?_) (fun h1=>?_)
 ·exact absurd rfl h1
 refine sk ?_;refine sq ?_;refine rl ?_;refine ld ?_;refine ld ?_;refine o1 ?_;refine o1 ?_;refine bx 2 ?_;refine o1 ?_
 refine WL.sub (xB (i:=8) (k:=2) (t:=112) (l:=(jC M N rs us)) rfl rfl rfl (.one .sl)) ?_;refine nl ?_;refine sq ?_;refine sq ?_;refine rl ?_;refine bA Qg ?_;refine o1 ?_
 refine nl ?_;refine bl ?_
 refine lp (γ:=Nat) (fun k=>bS [(8,.one (.t (.p false 112 (jC M N rs us)))),(22,.agg [.t (.f 54 [] []),.t (.f 55 [] []),.t (.f 56 [] []),.t (.f 57 [] []),.t (.f 58 [] []),.t (.f 59 [] [])]),(23,.one (tv (.int .i64 ((k:Nat):Int))))]) (fun k=>([]:List Ob).map some) (fun k=>k≤6∧∀j,j<k→qL M N rs us j=true) (fun k=>6-k) 0 ⟨Nat.zero_le _,f0⟩ (aG h0 [] _ _ (by decide) ⟨rfl,rfl,rfl,trivial⟩ rfl) fun k hk=>?_
 refine sq ?_;refine rl ?_;refine o1 ?_;refine nl ?_;refine sq ?_;refine bP rfl (fun h2=>?_) (fun h2=>?_)
 ·refine sk ?_;refine sq ?_;refine bl ?_;refine sq ?_;refine rl ?_;have hk9:k<6:=by omega
  refine MF Qg hk9 (SO hk9) ?_;refine o1 ?_;refine nl ?_;refine sq ?_;refine rl ?_;refine o1 ?_;refine o1 ?_
  refine ce 0 [.one (.t (.p false 112 (jC M N rs us)))] rfl (NT hOk hJ hk9 hk.2) (WC hk9) ⟨rfl,rfl⟩ ?_;refine WL.splitb (t:=28) rfl (fun h3=>?_) (fun h3=>?_)
  ·refine o1 ?_;refine nl ?_;refine iH rfl ?_;refine sk ?_;refine rl ?_;refine o1 ?_;refine WL.cast (t:=30) (u':=.int .i64 ((k+1:Nat):Int)) rfl (aH (by omega)) ?_
   refine o1 ?_;refine nl ?_;exact⟨k+1,by omega,⟨by omega,lJ hk.2 h3⟩,aG h0 [] _ _ (by decide) ⟨rfl,rfl,rfl,trivial⟩ rfl⟩
  refine o1 ?_;refine nl ?_;refine gL rfl ?_;refine sq ?_;refine rl ?_;refine o1 ?_;refine nl ?_;refine rt ?_
  exact en (.inl rfl) rfl (aO (bL _)) (by decide) (fun _=>trivial) (congrArg (fun z=>FV.one (tv (.int .i64 z))) (by rw[WK (by omega) h3];rfl))
 refine ex ?_;refine sq ?_;refine rl ?_;refine o1 ?_;refine nl ?_;refine rt ?_
 exact en (.inl rfl) rfl (aO (bL _)) (by decide) (fun _=>trivial) (congrArg (fun z=>FV.one (tv (.int .i64 z))) (by rw[SP fun j hj=>hk.2 j (by omega)];rfl))
theorem BQ {c:Fr4}{bk fw:Int}{ys:List (Fr4×Fr4)}{rs:List Rf}{us:List Uf}(hs:Sm c ys) (hm:¬cY c bk fw ys=0):aE true Tryz.prog 24 [] [.agg ((c.tr false++[.v (.int .i64 bk),.v (.int .i64 fw)]:List Tr).map .t),.one (.t (fM ys)),.agg (([gS rs,kI us]:List Tr).map .t)] (aN (.one (tv (.int .i64 (cY c bk fw ys))))):=by
 refine bC Tryz.func24 rfl Tryz.ntmps24 rfl aA rfl fun N9 w9 c0 h0=>?_
 refine sq ?_;refine rl ?_;refine bx 0 ?_;refine bx 1 ?_;refine o1 ?_;refine nl ?_;refine sq ?_;refine sq ?_;refine rl ?_;refine ld ?_;refine o1 ?_
 refine ca (Je (bk:=bk) (fw:=fw) hs.c.1 (fun y hy=>⟨(hs.y y hy).1.1,(hs.y y hy).2.1⟩) hs.sz (by have:=hs.l;omega)) Tb ⟨aB rfl,a1 rfl,rfl⟩ (.one (tv (.int .i64 (cY c bk fw ys)))) ?_
 refine o1 ?_;refine nl ?_;refine sq ?_;refine rl ?_;refine o1 ?_;refine o1 ?_;refine nl ?_;refine bP rfl (fun h1=>?_) (fun h1=>?_)
 ·refine sq ?_;refine rl ?_;refine o1 ?_;refine o1 ?_;refine nl ?_;refine rt ?_
  exact en (.inl rfl) rfl (aO (bL _)) (by decide) (fun _=>trivial) (congrArg (fun z=>FV.one (tv (.int .i64 z))) (rfl))
 exact absurd hm h1
end Go.Proofs.YthoemjjmkgmnjaaGreat
