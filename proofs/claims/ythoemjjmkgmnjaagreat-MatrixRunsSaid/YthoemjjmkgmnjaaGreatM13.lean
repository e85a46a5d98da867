/- Part 13 of a proof: A6 to E4. -/
import Derived.Test.YthoemjjmkgmnjaaGreatM12
import Derived.Test.YthoemjjmkgmnjaaGreatM7
import Derived.Test.YthoemjjmkgmnjaaGreatM11
set_option maxRecDepth 100000
set_option linter.unusedVariables false
set_option linter.unusedSimpArgs false
namespace Go.Proofs.YthoemjjmkgmnjaaGreat
open Go Go.RowKit
theorem KN {xs:List Fr4}(hne:0<xs.length) (hx:∀x∈xs,x.ok∧Sz 17179869184 x.q) (hl:xs.length≤1099511627776):aE false Tryz.prog 92 [] [.one (.t (sQ false xs))] (aQ (qF (.of (kQ (xs.map Fr4.q))))):=by
 refine bO Tryz.func92 rfl Tryz.ntmps92 rfl aA rfl fun N w c0 h0=>?_
 refine sq ?_;refine rl ?_;refine al 0 ?_;refine nl ?_;refine sq ?_;refine rl ?_;refine o1 ?_;refine o1 ?_;refine gJ ((fW xs (0)).tr false) (wX xs (k:=0) (by omega)) ?_
 refine ca (jZ ⟨(hx _ (fQ (by omega))).1,rfl⟩) uY ⟨aB rfl,rfl⟩ (qF (.of (fW xs (0)).q)) ?_
 refine al 1 ?_;refine st ?_;refine nl ?_;refine sq ?_;refine sq ?_;refine rl ?_;refine o1 ?_;refine nl ?_;refine bl ?_
 refine lp (γ:=Nat) (fun k=>cG [(0,.one (.t (sQ false xs))),(2,.one (.pt 0 0)),(3,.one (.pt 1 0)),(4,.one (tv (.int .i64 ((k:Nat):Int))))]) (fun k=>[(⟨49,0,[tv (.bool false),tv (.slice none 0 0),tv (.bool false),tv (.slice none 0 0)]⟩:Ob),⟨49,0,((Fr4.of (kQ ((xs.take k).map Fr4.q))).tr false).map .t⟩].map some) (fun k=>1≤k∧k≤xs.length∧Sz 17179869184 (kQ ((xs.take k).map Fr4.q))) (fun k=>xs.length-k) 1 ⟨Nat.le_refl _,hne,by rw[Gs hne];exact(hx _ (fQ hne)).2⟩ (aP h0 [0,1] _ _ (by decide) ⟨rfl,rfl,rfl,rfl,trivial⟩ ⟨oe rfl rfl,aD (congrArg (fun q=>some (⟨49,0,((Fr4.of q).tr false).map .t⟩:Ob)) (Gs hne).symm),rfl⟩) fun k hk=>?_
 refine sq ?_;refine sq ?_;refine rl ?_;(iterate 4 refine o1 ?_);refine nl ?_;refine bQ rfl (fun h1=>?_) (fun h1=>?_)
 ·refine sk ?_;refine sq ?_;refine bl ?_;refine sq ?_;refine rd [0,1] (fun i=>[].contains i) mixed ?_
  refine dv 0 ?_;refine dv 1 ?_;refine dv 2 ?_;refine dG 3 ((fW xs (k)).tr false) (wX xs (k:=k) (by omega)) ?_
  refine aM 4 ?_
  refine aF 5 rfl (Kn ⟨(hx _ (fQ (by omega))).1,rfl⟩ (Qn.of (p:=(kQ ((xs.take k).map Fr4.q))) hk.2.2) (hx _ (fQ (by omega))).2 hk.2.2) Zo ⟨aB rfl,aB rfl,rfl⟩ (.one (tv (.int .i64 ((fW xs (k)).q-(kQ ((xs.take k).map Fr4.q))).num.sign))) ?_
  refine df 6 ?_;refine aH ?_;refine bQ rfl (fun h2=>?_) (fun h2=>?_)
  ·refine rl ?_;(iterate 3 refine o1 ?_);refine gJ ((fW xs (k)).tr false) (wX xs (k:=k) (by omega)) ?_
   refine ca (jZ ⟨(hx _ (fQ (by omega))).1,rfl⟩) uY ⟨aB rfl,rfl⟩ (qF (.of (fW xs (k)).q)) ?_
   refine st ?_;refine nl ?_;refine rl ?_;refine o1 ?_;refine o1 ?_;refine WL.cast (t:=14) (u':=.int .i64 ((k+1:Nat):Int)) rfl (aO (by omega)) ?_
   refine o1 ?_;refine nl ?_;have hst:(kQ ((xs.take (k+1)).map Fr4.q))=(fW xs k).q:=(Do hk.1 (by omega)).trans (if_pos ((Vt _ _).1 h2))
   exact⟨k+1,by omega,⟨by omega,by omega,by rw[hst];exact(hx _ (fQ (by omega))).2⟩,aP h0 [0,1] _ _ (by decide) ⟨rfl,rfl,rfl,rfl,trivial⟩ ⟨oe rfl rfl,aD (congrArg (fun q=>some (⟨49,0,((Fr4.of q).tr false).map .t⟩:Ob)) hst.symm),rfl⟩⟩
  refine sk ?_;refine rl ?_;refine o1 ?_;refine o1 ?_;refine WL.cast (t:=14) (u':=.int .i64 ((k+1:Nat):Int)) rfl (aO (by omega)) ?_
  refine o1 ?_;refine nl ?_;have hst:(kQ ((xs.take (k+1)).map Fr4.q))=(kQ ((xs.take k).map Fr4.q)):=(Do hk.1 (by omega)).trans (if_neg fun h8=>h2 ((Vt _ _).2 h8))
  exact⟨k+1,by omega,⟨by omega,by omega,by rw[hst];exact hk.2.2⟩,aP h0 [0,1] _ _ (by decide) ⟨rfl,rfl,rfl,rfl,trivial⟩ ⟨oe rfl rfl,aD (congrArg (fun q=>some (⟨49,0,((Fr4.of q).tr false).map .t⟩:Ob)) hst.symm),rfl⟩⟩
 refine ex ?_;refine sq ?_;refine rl ?_;refine ld ?_;refine st ?_;refine nl ?_;refine rt ?_
 exact en (.inl rfl) rfl (aN (.agg (.cons (.id rfl) (.cons (.id rfl) (.cons (.id rfl) (.cons (.id rfl) .nil)))))) (by decide) (fun h=>by cases h) (by rw[List.take_of_length_le (by omega)];rfl)
def gA (ys:List (Fr4×Fr4)):Tr:=.s false 72 8 ys.length (ys.flatMap cA)
theorem eZ:aE false Tryz.prog 47 [] [] (aQ (qF (.of ((0:Int):Rat)))):=by
 refine bO Tryz.func47 rfl Tryz.ntmps47 rfl aA rfl fun N w c0 h0=>?_
 refine sq ?_;refine rl ?_;refine al 0 ?_;refine nl ?_;refine sq ?_;refine rl ?_;refine ca (Kj (n:=0) (by omega) (by omega)) KO ⟨a1 rfl,rfl⟩ (qF (.of ((0:Int):Rat))) ?_
 refine st ?_;refine nl ?_;refine rt ?_;exact en (.inl rfl) rfl (aN (.agg (.cons (.id rfl) (.cons (.id rfl) (.cons (.id rfl) (.cons (.id rfl) .nil)))))) (by decide) (fun h=>by cases h) (rfl)
theorem gU {a:Fr4}{p:Rat}(ha:Qn a p):aE false Tryz.prog 43 [] [qF a] (aQ (qF (.of (abv p)))):=by
 refine bO Tryz.func43 rfl Tryz.ntmps43 rfl aA rfl fun N w c0 h0=>?_
 refine sq ?_;refine rl ?_;refine bx 0 ?_;refine al 1 ?_;refine nl ?_;refine sq ?_;refine sq ?_;refine rl ?_;refine ld ?_
 refine ca (qA ha) Ff ⟨aB rfl,rfl⟩ (.one (tv (.int .i64 p.num.sign))) ?_;refine o1 ?_;refine nl ?_;refine bQ rfl (fun h1=>?_) (fun h1=>?_)
 ·refine sq ?_;refine rl ?_;refine ca (eZ) iU rfl (qF (.of ((0:Int):Rat))) ?_;refine st ?_;refine nl ?_;refine rt ?_
  exact en (.inl rfl) rfl (aN (.agg (.cons (.id rfl) (.cons (.id rfl) (.cons (.id rfl) (.cons (.id rfl) .nil)))))) (by decide) (fun h=>by cases h) (congrArg (fun q=>qF (.of q)) ((lZ p).trans (if_pos ((mV p).1 h1))).symm)
 refine sk ?_;refine sq ?_;refine rl ?_;refine ld ?_;refine ca (jZ ha) uY ⟨aB rfl,rfl⟩ (qF (.of p)) ?_;refine st ?_;refine nl ?_;refine rt ?_
 exact en (.inl rfl) rfl (aN (.agg (.cons (.id rfl) (.cons (.id rfl) (.cons (.id rfl) (.cons (.id rfl) .nil)))))) (by decide) (fun h=>by cases h) (congrArg (fun q=>qF (.of q)) ((lZ p).trans (if_neg (fun h9=>h1 ((mV p).2 h9)))).symm)
theorem oF {c a b:Fr4}{q p:Rat}{bk fw:Int}(hc:Qn c q) (ha:Qn a p) (hs:Sz 17179869184 q) (hs2:Sz 17179869184 p):aE false Tryz.prog 45 [] [.agg ((c.tr false++[.v (.int .i64 bk),.v (.int .i64 fw)]:List Tr).map .t),.agg ((cA (a,b)).map .t)] (aQ (qF (.of (q*abv p)))):=by
 refine bO Tryz.func45 rfl Tryz.ntmps45 rfl aA rfl fun N w c0 h0=>?_
 have hs1:Sz 17179869184 (abv p):=gS hs2 (by omega)
 refine sq ?_;refine rl ?_;refine bx 0 ?_;refine bx 1 ?_;refine al 2 ?_;refine nl ?_;refine sq ?_;refine rd [0,1,2] (fun i=>[6].contains i) mixed ?_
 refine dv 0 ?_;refine aM 1 ?_;refine dv 2 ?_;refine aM 3 ?_;refine aF 4 rfl (gU ha) nN ⟨aB rfl,rfl⟩ (qF (.of (abv p))) ?_
 refine aF 5 rfl (KM hc (Qn.of (p:=(abv p)) hs1) hs hs1) RX ⟨aB rfl,aB rfl,rfl⟩ (qF (.of (q*(abv p)))) ?_;refine dst 6 ?_;refine aH ?_;refine rt ?_
 exact en (.inl rfl) rfl (aN (.agg (.cons (.id rfl) (.cons (.id rfl) (.cons (.id rfl) (.cons (.id rfl) .nil)))))) (by decide) (fun h=>by cases h) (rfl)
theorem DA {c:Fr4}{bk fw:Int}{ys:List (Fr4×Fr4)}(hsm:Sm c ys):aE true Tryz.prog 40 [] [.agg ((c.tr false++[.v (.int .i64 bk),.v (.int .i64 fw)]:List Tr).map .t),.one (.t (gA ys))] (aQ (.one (tv (.int .i64 (cW c bk fw ys))))):=by
 refine bO Tryz.func40 rfl Tryz.ntmps40 rfl aA rfl fun N w c0 h0=>?_
 have hs1:Sz 8 ((1:Int):Rat):=(mA (z:=1) (by omega) (by omega)).mono (by omega)
 have hlz:∀y∈ys,Sz 8 (c.q*abv y.1.q):=fun y hy=>(Js hsm.cz (gS (Jt (hsm.y y hy).1.1 (hsm.y y hy).1.2) (by omega))).mono (by omega)
 have hl50:=hsm.l
 replace hs1:Sz 17179869184 ((1:Int):Rat):=hs1.mono (by omega)
 refine sq ?_;refine rl ?_;refine bx 0 ?_;refine o1 ?_;refine nl ?_;refine sq ?_;refine sq ?_;refine rd [0] (fun i=>[].contains i) mixed ?_
 refine dv 0 ?_;refine aM 1 ?_;refine aF 2 rfl (uX (⟨hsm.c.1,rfl⟩:Qn c c.q)) Sj ⟨aB rfl,rfl⟩ (.one (tv (.bool (bC c.s c.x c.t c.y)))) ?_
 refine WD.splitb (t:=8) rfl (fun h1=>?_) (fun h1=>?_)
 ·refine df 3 ?_;refine df 4 ?_;refine dv 5 ?_;refine aM 6 ?_;refine aF 7 rfl (qA (⟨hsm.c.1,rfl⟩:Qn c c.q)) Ff ⟨aB rfl,rfl⟩ (.one (tv (.int .i64 c.q.num.sign))) ?_;refine df 8 ?_
  refine df 9 ?_;refine df 10 ?_;refine WD.split (t:=16) rfl rfl (fun h2=>?_) (fun h2=>?_)
  ·refine aI 11 ?_;refine aI 12 ?_;refine aI 13 ?_;refine aI 14 ?_;refine aI 15 ?_;refine df 16 ?_;refine df 17 ?_;refine aI 18 ?_;refine aI 19 ?_;refine aI 20 ?_;refine df 21 ?_
   refine df 22 ?_;refine aI 23 ?_;refine aI 24 ?_;refine aI 25 ?_;refine df 26 ?_;refine df 27 ?_;refine aI 28 ?_;refine aI 29 ?_;refine aI 30 ?_;refine df 31 ?_;refine df 32 ?_
   refine aI 33 ?_;refine aI 34 ?_;refine aI 35 ?_;refine df 36 ?_;refine aH ?_;refine iF rfl ?_;refine sq ?_;refine rl ?_;refine o1 ?_;refine nl ?_;refine rt ?_
   exact en (.inl rfl) rfl (aN (bH _)) (by decide) (fun _=>trivial) (congrArg (fun z=>FV.one (tv (.int .i64 z))) (by unfold cW;rw[show fJ c bk fw=true by simp only[fJ,h1,decide_eq_true h2,Bool.not_true,Bool.not_false,Bool.or_true,Bool.true_or,Bool.false_or,Bool.or_false,Bool.false_eq_true,if_true,if_false,ite_true,ite_false,Bool.and_true,Bool.true_and,Bool.false_and,Bool.and_false]];rfl))
  refine dv 11 ?_;refine aM 12 ?_;refine aF 13 rfl (Kj (n:=1) (by omega) (by omega)) KO ⟨a1 rfl,rfl⟩ (qF (.of ((1:Int):Rat))) ?_
  refine aF 14 rfl (Kn (⟨hsm.c.1,rfl⟩:Qn c c.q) (Qn.of (p:=((1:Int):Rat)) hs1) (hsm.cz.mono (by omega)) hs1) Zo ⟨aB rfl,aB rfl,rfl⟩ (.one (tv (.int .i64 (c.q-((1:Int):Rat)).num.sign))) ?_
  refine df 15 ?_;refine df 16 ?_;refine df 17 ?_;refine WD.split (t:=23) rfl rfl (fun h3=>?_) (fun h3=>?_)
  ·refine aI 18 ?_;refine aI 19 ?_;refine aI 20 ?_;refine df 21 ?_;refine df 22 ?_;refine aI 23 ?_;refine aI 24 ?_;refine aI 25 ?_;refine df 26 ?_;refine df 27 ?_;refine aI 28 ?_
   refine aI 29 ?_;refine aI 30 ?_;refine df 31 ?_;refine df 32 ?_;refine aI 33 ?_;refine aI 34 ?_;refine aI 35 ?_;refine df 36 ?_;refine aH ?_;refine iF rfl ?_;refine sq ?_
   refine rl ?_;refine o1 ?_;refine nl ?_;refine rt ?_
   exact en (.inl rfl) rfl (aN (bH _)) (by decide) (fun _=>trivial) (congrArg (fun z=>FV.one (tv (.int .i64 z))) (by unfold cW;rw[show fJ c bk fw=true by simp only[fJ,h1,decide_eq_false h2,decide_eq_true h3,Bool.not_true,Bool.not_false,Bool.or_true,Bool.true_or,Bool.false_or,Bool.or_false,Bool.false_eq_true,if_true,if_false,ite_true,ite_false,Bool.and_true,Bool.true_and,Bool.false_and,Bool.and_false]];rfl))
  refine dv 18 ?_;refine aM 19 ?_;refine dv 20 ?_;refine df 21 ?_;refine df 22 ?_;refine WD.split (t:=28) rfl rfl (fun h4=>?_) (fun h4=>?_)
  ·refine aI 23 ?_;refine aI 24 ?_;refine aI 25 ?_;refine df 26 ?_;refine df 27 ?_;refine aI 28 ?_;refine aI 29 ?_;refine aI 30 ?_;refine df 31 ?_;refine df 32 ?_
   refine aI 33 ?_;refine aI 34 ?_;refine aI 35 ?_;refine df 36 ?_;refine aH ?_;refine iF rfl ?_;refine sq ?_;refine rl ?_;refine o1 ?_;refine nl ?_;refine rt ?_
   exact en (.inl rfl) rfl (aN (bH _)) (by decide) (fun _=>trivial) (congrArg (fun z=>FV.one (tv (.int .i64 z))) (by unfold cW;rw[show fJ c bk fw=true by simp only[fJ,h1,decide_eq_false h2,decide_eq_false h3,decide_eq_true h4,Bool.not_true,Bool.not_false,Bool.or_true,Bool.true_or,Bool.false_or,Bool.or_false,Bool.false_eq_true,if_true,if_false,ite_true,ite_false,Bool.and_true,Bool.true_and,Bool.false_and,Bool.and_false]];rfl))
  refine dv 23 ?_;refine aM 24 ?_;refine dv 25 ?_;refine df 26 ?_;refine df 27 ?_;refine WD.split (t:=33) rfl rfl (fun h5=>?_) (fun h5=>?_)
  ·refine aI 28 ?_;refine aI 29 ?_;refine aI 30 ?_;refine df 31 ?_;refine df 32 ?_;refine aI 33 ?_;refine aI 34 ?_;refine aI 35 ?_;refine df 36 ?_;refine aH ?_
   refine iF rfl ?_;refine sq ?_;refine rl ?_;refine o1 ?_;refine nl ?_;refine rt ?_
   exact en (.inl rfl) rfl (aN (bH _)) (by decide) (fun _=>trivial) (congrArg (fun z=>FV.one (tv (.int .i64 z))) (by unfold cW;rw[show fJ c bk fw=true by simp only[fJ,h1,decide_eq_false h2,decide_eq_false h3,decide_eq_false h4,decide_eq_true h5,Bool.not_true,Bool.not_false,Bool.or_true,Bool.true_or,Bool.false_or,Bool.or_false,Bool.false_eq_true,if_true,if_false,ite_true,ite_false,Bool.and_true,Bool.true_and,Bool.false_and,Bool.and_false]];rfl))
  refine dv 28 ?_;refine aM 29 ?_;refine dv 30 ?_;refine df 31 ?_;refine df 32 ?_;refine WD.split (t:=38) rfl rfl (fun h6=>?_) (fun h6=>?_)
  ·refine aI 33 ?_;refine aI 34 ?_;refine aI 35 ?_;refine df 36 ?_;refine aH ?_;refine iF rfl ?_;refine sq ?_;refine rl ?_;refine o1 ?_;refine nl ?_;refine rt ?_
   exact en (.inl rfl) rfl (aN (bH _)) (by decide) (fun _=>trivial) (congrArg (fun z=>FV.one (tv (.int .i64 z))) (by unfold cW;rw[show fJ c bk fw=true by simp only[fJ,h1,decide_eq_false h2,decide_eq_false h3,decide_eq_false h4,decide_eq_false h5,decide_eq_true h6,Bool.not_true,Bool.not_false,Bool.or_true,Bool.true_or,Bool.false_or,Bool.or_false,Bool.false_eq_true,if_true,if_false,ite_true,ite_false,Bool.and_true,Bool.true_and,Bool.false_and,Bool.and_false]];rfl))
  refine dv 33 ?_;refine aM 34 ?_;refine dv 35 ?_;refine df 36 ?_;refine aH ?_;refine bQ rfl (fun h7=>?_) (fun h7=>?_)
  ·refine sq ?_;refine rl ?_;refine o1 ?_;refine nl ?_;refine rt ?_
   exact en (.inl rfl) rfl (aN (bH _)) (by decide) (fun _=>trivial) (congrArg (fun z=>FV.one (tv (.int .i64 z))) (by unfold cW;rw[show fJ c bk fw=true by simp only[fJ,h1,decide_eq_false h2,decide_eq_false h3,decide_eq_false h4,decide_eq_false h5,decide_eq_false h6,decide_eq_true h7,Bool.not_true,Bool.not_false,Bool.or_true,Bool.true_or,Bool.false_or,Bool.or_false,Bool.false_eq_true,if_true,if_false,ite_true,ite_false,Bool.and_true,Bool.true_and,Bool.false_and,Bool.and_false]];rfl))
  refine sk ?_;refine sq ?_;refine sq ?_
  have hbr:fJ c bk fw=false:=by simp only[fJ,h1,decide_eq_false h2,decide_eq_false h3,decide_eq_false h4,decide_eq_false h5,decide_eq_false h6,decide_eq_false h7,Bool.not_true,Bool.not_false,Bool.or_true,Bool.true_or,Bool.false_or,Bool.or_false,Bool.false_eq_true,if_true,if_false,ite_true,ite_false,Bool.and_true,Bool.true_and,Bool.false_and,Bool.and_false]
  refine rl ?_;refine o1 ?_;refine nl ?_;refine bl ?_
  refine lp (γ:=Nat) (fun k=>cG [(1,.one (.t (gA ys))),(2,.one (.pt 0 0)),(5,.one (tv (.int .i64 ((k:Nat):Int))))]) (fun _=>[(⟨58,0,(c.tr false++[.v (.int .i64 bk),.v (.int .i64 fw)]:List Tr).map .t⟩:Ob)].map some) (fun k=>k≤ys.length∧∀j,j<k→fV c (bR ys j)=false) (fun k=>ys.length-k) 0 ⟨Nat.zero_le _,fun j hj=>absurd hj (Nat.not_lt_zero j)⟩ (aP h0 [0] _ _ (by decide) ⟨rfl,rfl,rfl,trivial⟩ ⟨oe rfl rfl,rfl⟩) fun k hk=>?_
  refine sq ?_;refine sq ?_;refine rl ?_;(iterate 4 refine o1 ?_);refine nl ?_;refine bQ rfl (fun h8=>?_) (fun h8=>?_)
  ·refine sk ?_;refine sq ?_;refine bl ?_;refine sq ?_;have hx:=hsm.y _ (fZ (ys:=ys) (k:=k) (by omega))
   refine rd [0] (fun i=>[].contains i) mixed ?_
   refine dv 0 ?_;refine dv 1 ?_;refine dv 2 ?_;refine dv 3 ?_
   refine dG 4 ((bR ys (k)).1.tr false) (aX (f:=cA) (z:=8) (o:=0) dB (dW (by omega)) (Nat.le_of_ble_eq_true rfl) rfl) ?_
   refine aF 5 rfl (uX (⟨hx.1.1,rfl⟩:Qn (bR ys k).1 (bR ys k).1.q)) Sj ⟨aB rfl,rfl⟩ (.one (tv (.bool (bC (bR ys (k)).1.s (bR ys (k)).1.x (bR ys (k)).1.t (bR ys (k)).1.y)))) ?_
   refine WD.splitb (t:=54) rfl (fun h9=>?_) (fun h9=>?_)
   ·refine df 6 ?_;refine df 7 ?_;refine dv 8 ?_;refine dv 9 ?_;refine dv 10 ?_;refine dv 11 ?_
    refine dG 12 ((bR ys (k)).2.tr false) (aX (f:=cA) (z:=8) (o:=4) dB (dW (by omega)) (Nat.le_of_ble_eq_true rfl) rfl) ?_
    refine aF 13 rfl (uX (⟨hx.2.1,rfl⟩:Qn (bR ys k).2 (bR ys k).2.q)) Sj ⟨aB rfl,rfl⟩ (.one (tv (.bool (bC (bR ys (k)).2.s (bR ys (k)).2.x (bR ys (k)).2.t (bR ys (k)).2.y)))) ?_
    refine WD.splitb (t:=62) rfl (fun h10=>?_) (fun h10=>?_)
    ·refine df 14 ?_;refine df 15 ?_;refine df 16 ?_;refine dv 17 ?_;refine dv 18 ?_;refine dv 19 ?_;refine dv 20 ?_
     refine dG 21 ((bR ys (k)).2.tr false) (aX (f:=cA) (z:=8) (o:=4) dB (dW (by omega)) (Nat.le_of_ble_eq_true rfl) rfl) ?_
     refine aF 22 rfl (qA (⟨hx.2.1,rfl⟩:Qn (bR ys k).2 (bR ys k).2.q)) Ff ⟨aB rfl,rfl⟩ (.one (tv (.int .i64 (bR ys (k)).2.q.num.sign))) ?_;refine df 23 ?_
     refine df 24 ?_;refine df 25 ?_;refine WD.split (t:=74) rfl rfl (fun h11=>?_) (fun h11=>?_)
     ·refine aI 26 ?_;refine aI 27 ?_;refine aI 28 ?_;refine aI 29 ?_;refine aI 30 ?_;refine aI 31 ?_;refine aI 32 ?_;refine aI 33 ?_;refine aI 34 ?_
      refine aI 35 ?_;refine aI 36 ?_;refine aI 37 ?_;refine aI 38 ?_;refine df 39 ?_;refine aH ?_;refine iF rfl ?_;refine sq ?_;refine rl ?_;refine o1 ?_;refine nl ?_
      refine rt ?_
      have hby:fV c (bR ys k)=true:=by simp only[fV,h9,h10,decide_eq_true h11,Bool.not_true,Bool.not_false,Bool.or_true,Bool.true_or,Bool.false_or,Bool.or_false,Bool.false_eq_true,if_true,if_false,ite_true,ite_false,Bool.and_true,Bool.true_and,Bool.false_and,Bool.and_false]
      have hany:ys.any (fV c)=true:=List.any_eq_true.2 ⟨_,fZ (by omega),hby⟩
      exact en (.inl rfl) rfl (aN (bH _)) (by decide) (fun _=>trivial) (congrArg (fun z=>FV.one (tv (.int .i64 z))) (by unfold cW;rw[hany,Bool.or_true,if_pos rfl]))
     refine dv 26 ?_;refine dv 27 ?_;refine dv 28 ?_;refine dv 29 ?_
     refine dG 30 ((bR ys (k)).2.tr false) (aX (f:=cA) (z:=8) (o:=4) dB (dW (by omega)) (Nat.le_of_ble_eq_true rfl) rfl) ?_
     refine aM 31 ?_;refine dv 32 ?_;refine dv 33 ?_;refine dv 34 ?_
     refine dG 35 (cA (bR ys (k))) (aX (f:=cA) (z:=8) (o:=0) dB (dW (by omega)) (Nat.le_of_ble_eq_true rfl) rfl) ?_
     refine aF 36 rfl (oF (b:=(bR ys k).2) (⟨hsm.c.1,rfl⟩:Qn c c.q) (⟨hx.1.1,rfl⟩:Qn (bR ys k).1 (bR ys k).1.q) (hsm.cz.mono (by omega)) ((Jt hx.1.1 hx.1.2).mono (by omega))) Bl ⟨aB rfl,aB rfl,rfl⟩ (qF (.of (c.q*abv (bR ys k).1.q))) ?_
     refine aF 37 rfl (Kn (⟨hx.2.1,rfl⟩:Qn (bR ys k).2 (bR ys k).2.q) (Qn.of (p:=(c.q*abv (bR ys k).1.q)) (hlz _ (fZ (by omega)))) ((Jt hx.2.1 hx.2.2).mono (by omega)) ((hlz _ (fZ (by omega))).mono (by omega))) Zo ⟨aB rfl,aB rfl,rfl⟩ (.one (tv (.int .i64 ((bR ys (k)).2.q-(c.q*abv (bR ys k).1.q)).num.sign))) ?_
     refine df 38 ?_;refine df 39 ?_;refine aH ?_;refine bQ rfl (fun h12=>?_) (fun h12=>?_)
     ·refine sq ?_;refine rl ?_;refine o1 ?_;refine nl ?_;refine rt ?_
      have hby:fV c (bR ys k)=true:=by simp only[fV,h9,h10,decide_eq_false h11,decide_eq_true h12,Bool.not_true,Bool.not_false,Bool.or_true,Bool.true_or,Bool.false_or,Bool.or_false,Bool.false_eq_true,if_true,if_false,ite_true,ite_false,Bool.and_true,Bool.true_and,Bool.false_and,Bool.and_false]
      have hany:ys.any (fV c)=true:=List.any_eq_true.2 ⟨_,fZ (by omega),hby⟩
      exact en (.inl rfl) rfl (aN (bH _)) (by decide) (fun _=>trivial) (congrArg (fun z=>FV.one (tv (.int .i64 z))) (by unfold cW;rw[hany,Bool.or_true,if_pos rfl]))
     refine sk ?_;refine rl ?_;refine o1 ?_;refine o1 ?_;refine WL.cast (t:=48) (u':=.int .i64 ((k+1:Nat):Int)) rfl (aO (by omega)) ?_
     refine o1 ?_;refine nl ?_
     exact⟨k+1,by omega,⟨by omega,fun j hj=>by rcases Nat.lt_succ_iff_lt_or_eq.1 hj with h9 | h9;exact hk.2 j h9;subst h9;simp only[fV,h9,h10,decide_eq_false h11,decide_eq_false h12,Bool.not_true,Bool.not_false,Bool.or_true,Bool.true_or,Bool.false_or,Bool.or_false,Bool.false_eq_true,if_true,if_false,ite_true,ite_false,Bool.and_true,Bool.true_and,Bool.false_and,Bool.and_false]⟩,aP h0 [0] _ _ (by decide) ⟨rfl,rfl,rfl,trivial⟩ ⟨oe rfl rfl,rfl⟩⟩
    refine df 14 ?_;refine df 15 ?_;refine df 16 ?_;refine aI 17 ?_;refine aI 18 ?_;refine aI 19 ?_;refine aI 20 ?_;refine aI 21 ?_;refine aI 22 ?_;refine aI 23 ?_
    refine df 24 ?_;refine df 25 ?_;refine aI 26 ?_;refine aI 27 ?_;refine aI 28 ?_;refine aI 29 ?_;refine aI 30 ?_;refine aI 31 ?_;refine aI 32 ?_;refine aI 33 ?_
    refine aI 34 ?_;refine aI 35 ?_;refine aI 36 ?_;refine aI 37 ?_;refine aI 38 ?_;refine df 39 ?_;refine aH ?_;refine iF rfl ?_;refine sq ?_;refine rl ?_
    refine o1 ?_;refine nl ?_;refine rt ?_
    have hby:fV c (bR ys k)=true:=by simp only[fV,h9,h10,Bool.not_true,Bool.not_false,Bool.or_true,Bool.true_or,Bool.false_or,Bool.or_false,Bool.false_eq_true,if_true,if_false,ite_true,ite_false,Bool.and_true,Bool.true_and,Bool.false_and,Bool.and_false]
    have hany:ys.any (fV c)=true:=List.any_eq_true.2 ⟨_,fZ (by omega),hby⟩
    exact en (.inl rfl) rfl (aN (bH _)) (by decide) (fun _=>trivial) (congrArg (fun z=>FV.one (tv (.int .i64 z))) (by unfold cW;rw[hany,Bool.or_true,if_pos rfl]))
   refine df 6 ?_;refine df 7 ?_;refine aI 8 ?_;refine aI 9 ?_;refine aI 10 ?_;refine aI 11 ?_;refine aI 12 ?_;refine aI 13 ?_;refine aI 14 ?_;refine df 15 ?_
   refine df 16 ?_;refine aI 17 ?_;refine aI 18 ?_;refine aI 19 ?_;refine aI 20 ?_;refine aI 21 ?_;refine aI 22 ?_;refine aI 23 ?_;refine df 24 ?_;refine df 25 ?_
   refine aI 26 ?_;refine aI 27 ?_;refine aI 28 ?_;refine aI 29 ?_;refine aI 30 ?_;refine aI 31 ?_;refine aI 32 ?_;refine aI 33 ?_;refine aI 34 ?_;refine aI 35 ?_
   refine aI 36 ?_;refine aI 37 ?_;refine aI 38 ?_;refine df 39 ?_;refine aH ?_;refine iF rfl ?_;refine sq ?_;refine rl ?_;refine o1 ?_;refine nl ?_;refine rt ?_
   have hby:fV c (bR ys k)=true:=by simp only[fV,h9,Bool.not_true,Bool.not_false,Bool.or_true,Bool.true_or,Bool.false_or,Bool.or_false,Bool.false_eq_true,if_true,if_false,ite_true,ite_false,Bool.and_true,Bool.true_and,Bool.false_and,Bool.and_false]
   have hany:ys.any (fV c)=true:=List.any_eq_true.2 ⟨_,fZ (by omega),hby⟩
   exact en (.inl rfl) rfl (aN (bH _)) (by decide) (fun _=>trivial) (congrArg (fun z=>FV.one (tv (.int .i64 z))) (by unfold cW;rw[hany,Bool.or_true,if_pos rfl]))
  refine ex ?_;refine sq ?_;refine sq ?_;refine rl ?_;(iterate 3 refine o1 ?_);refine nl ?_;refine bQ rfl (fun h13=>?_) (fun h13=>?_)
  ·refine sq ?_;refine rl ?_;refine o1 ?_;refine nl ?_;refine rt ?_;have hany:ys.any (fV c)=false:=by
    rw[List.any_eq_false];intro y hy;obtain⟨j,hj⟩:=List.mem_iff_getElem?.1 hy
    have hjl:=(List.getElem?_eq_some_iff.1 hj).1
    rw[dW hjl]at hj;injection hj with hj;rw[←hj,hk.2 j (by omega)]
    simp
   exact en (.inl rfl) rfl (aN (bH _)) (by decide) (fun _=>trivial) (congrArg (fun z=>FV.one (tv (.int .i64 z))) (by unfold cW;rw[hbr,hany,decide_eq_true h13];rfl))
  refine sk ?_;refine sq ?_;refine rl ?_;refine o1 ?_;refine nl ?_;refine rt ?_;have hany:ys.any (fV c)=false:=by
   rw[List.any_eq_false];intro y hy;obtain⟨j,hj⟩:=List.mem_iff_getElem?.1 hy
   have hjl:=(List.getElem?_eq_some_iff.1 hj).1
   rw[dW hjl]at hj;injection hj with hj;rw[←hj,hk.2 j (by omega)]
   simp
  exact en (.inl rfl) rfl (aN (bH _)) (by decide) (fun _=>trivial) (congrArg (fun z=>FV.one (tv (.int .i64 z))) (by unfold cW;rw[hbr,hany,decide_eq_false h13];rfl))
 refine df 3 ?_;refine df 4 ?_;refine aI 5 ?_;refine aI 6 ?_;refine aI 7 ?_;refine aI 8 ?_;refine df 9 ?_;refine df 10 ?_;refine aI 11 ?_;refine aI 12 ?_;refine aI 13 ?_
 refine aI 14 ?_;refine aI 15 ?_;refine df 16 ?_;refine df 17 ?_;refine aI 18 ?_;refine aI 19 ?_;refine aI 20 ?_;refine df 21 ?_;refine df 22 ?_;refine aI 23 ?_;refine aI 24 ?_
 refine aI 25 ?_;refine df 26 ?_;refine df 27 ?_;refine aI 28 ?_;refine aI 29 ?_;refine aI 30 ?_;refine df 31 ?_;refine df 32 ?_;refine aI 33 ?_;refine aI 34 ?_;refine aI 35 ?_
 refine df 36 ?_;refine aH ?_;refine iF rfl ?_;refine sq ?_;refine rl ?_;refine o1 ?_;refine nl ?_;refine rt ?_
 exact en (.inl rfl) rfl (aN (bH _)) (by decide) (fun _=>trivial) (congrArg (fun z=>FV.one (tv (.int .i64 z))) (by unfold cW;rw[show fJ c bk fw=true by simp only[fJ,h1,Bool.not_true,Bool.not_false,Bool.or_true,Bool.true_or,Bool.false_or,Bool.or_false,Bool.false_eq_true,if_true,if_false,ite_true,ite_false,Bool.and_true,Bool.true_and,Bool.false_and,Bool.and_false]];rfl))
theorem Bm {B:Nat}:∀{l:List Rat},(∀q∈l,Sz B q)→Sz (2+l.length*(B+1)) (fK l):=fun{l} h=>by
 have key:∀(l:List Rat) (p:Rat) (m:Nat),Sz m p→(∀q∈l,Sz B q)→Sz (m+l.length*(B+1)) (l.foldl (· + ·) p):=by
  intro l
  induction l with
  | nil=>intro p m hp _;simpa using hp
  | cons q l ih=>
   intro p m hp hl
   have h1:=ih (p+q) (m+B+1) (kJ hp (hl q (List.mem_cons_self ..))) fun z hz=>hl z (List.mem_cons_of_mem _ hz)
   rw[List.foldl_cons,List.length_cons,Nat.add_mul,Nat.one_mul]
   exact h1.mono (by omega)
 exact key l 0 2 ((mA (z:=0) (by omega) (by omega)).mono (by omega)) h
theorem oG {us:List Us}{y:Int}{k:Nat}(h:k<us.length):bI (us.take (k+1)) y=if(aW us k).y=y then bI (us.take k) y+(aW us k).n else bI (us.take k) y:=by
 unfold bI
 rw[wO h,List.filter_append,List.map_append]
 split
 ·rename_i h9
  rw[List.filter_cons_of_pos (by simpa using h9)]
  exact oZ _ _
 rename_i h9
 rw[List.filter_cons_of_neg (by simpa using h9)]
 simp
theorem oH {us:List Us}{y:Int}{k:Nat}(h:k<us.length):dT (us.take (k+1)) y=if(aW us k).v=y then dT (us.take k) y+(aW us k).n else dT (us.take k) y:=by
 unfold dT
 rw[wO h,List.filter_append,List.map_append]
 split
 ·rename_i h9
  rw[List.filter_cons_of_pos (by simpa using h9)]
  exact oZ _ _
 rename_i h9
 rw[List.filter_cons_of_neg (by simpa using h9)]
 simp
theorem yS {us:List Us}{y:Int}{k:Nat}(h:UsOk us) (hl:us.length≤10000):Sz 8000000 (bI (us.take k) y):=by
 refine(Bm (B:=700) fun q hq=>?_).mono ?_
 ·obtain⟨u,hu,rfl⟩:=List.mem_map.1 hq
  exact(h u (List.mem_of_mem_take (List.mem_filter.1 hu).1)).1
 rw[List.length_map]
 have h1:=List.length_filter_le (fun u:Us=>decide (u.y=y)) (us.take k)
 have h2:=List.length_take_le k us
 have h3:(us.take k).length≤us.length:=by rw[List.length_take];omega
 omega
theorem mY {us:List Us}{y:Int}{k:Nat}(h:UsOk us) (hl:us.length≤10000):Sz 8000000 (dT (us.take k) y):=by
 refine(Bm (B:=700) fun q hq=>?_).mono ?_
 ·obtain⟨u,hu,rfl⟩:=List.mem_map.1 hq
  exact(h u (List.mem_of_mem_take (List.mem_filter.1 hu).1)).1
 rw[List.length_map]
 have h1:=List.length_filter_le (fun u:Us=>decide (u.v=y)) (us.take k)
 have h3:(us.take k).length≤us.length:=by rw[List.length_take];omega
 omega
theorem rV {α:Type}{f:α→List Tr}{z k o:Nat}{xs:List α}{x:α}(hf:∀x,(f x).length=z) (h:xs[k]? =some x) (ho:o<z):((xs.flatMap f).map AV.t)[0+k*z+o]? =((f x)[o]?).map .t:=by
 rw[List.getElem?_map]
 congr 1
 have h1:=Bn (f:=f) (o:=o) (m:=1) hf h (by omega)
 have h2:=congrArg (·[0]?) h1
 simpa[List.getElem?_take,List.getElem?_drop]using h2
theorem rW {us:List Us}{y:Int}(hus:UsOk us) (hl:us.length≤10000):aE false Tryz.prog 21 [⟨51,14,cR us⟩] [.agg [tv (.slice none 0 0),.sl 0 0 us.length],.one (tv (.int .i64 y))] (Rt [⟨51,14,cR us⟩] (qF (.of (bI us y)))):=by
 refine kS Tryz.func21 rfl Tryz.ntmps21 rfl aA rfl fun N9 M9 w9 c0 h0=>?_
 refine sq ?_;refine rl ?_;refine bx 1 ?_;refine al 2 ?_;refine nl ?_;refine sq ?_;refine rl ?_;refine ca (eZ) iU rfl (qF (.of ((0:Int):Rat))) ?_;refine al 3 ?_;refine st ?_
 refine nl ?_;refine sq ?_;refine sq ?_;refine rl ?_;refine o1 ?_;refine nl ?_;refine bl ?_
 refine lp (γ:=Nat) (fun k=>cG [(1,.one (tv (.int .i64 y))),(2,.one (.pt 1 0)),(4,.one (.pt 2 0)),(5,.one (.pt 3 0)),(6,.one (tv (.int .i64 ((k:Nat):Int))))]) (fun k=>[(⟨51,14,cR us⟩:Ob),⟨42,0,[tv (.slice none 0 0),.sl 0 0 (us.length)]⟩,⟨49,0,[tv (.bool false),tv (.slice none 0 0),tv (.bool false),tv (.slice none 0 0)]⟩,⟨49,0,((Fr4.of (bI (us.take k) y)).tr false).map .t⟩].map some) (fun k=>k≤us.length) (fun k=>us.length-k) 0 (Nat.zero_le _) (dP h0 [0,1,2,3] _ _ (by decide) rfl ⟨rfl,rfl,rfl,rfl,rfl,trivial⟩ ⟨aD rfl,oe rfl rfl,oe rfl rfl,aD rfl,rfl⟩) fun k hk=>?_
 have hk2:Sz 17179869184 (bI (us.take k) y):=(yS (k:=k) hus hl).mono (by omega)
 refine sq ?_;refine sq ?_;refine rl ?_;refine o1 ?_;refine o1 ?_;refine ld ?_;refine o1 ?_;refine o1 ?_;refine nl ?_;refine bQ rfl (fun h1=>?_) (fun h1=>?_)
 ·refine sk ?_;refine sq ?_;refine bl ?_;refine sq ?_;refine rl ?_;refine o1 ?_;refine ld ?_;(iterate 3 refine o1 ?_)
  refine Kd (l:=cR us) (v:=tv (.int .i64 (aW us (k)).y)) ((rV (f:=(cF false)) (z:=14) (k:=k) (o:=1) (xs:=us) (x:=aW us k) (dQ false) (dC (by omega)) (by decide)).trans rfl) ?_
  refine o1 ?_;refine o1 ?_;refine nl ?_;refine bQ rfl (fun h2=>?_) (fun h2=>?_)
  ·have hn9:Sz 17179869184 (aW us k).n:=(hus _ (jG (by omega))).1.mono (by omega)
   refine rd [0,1,2,3] (fun i=>[8].contains i) mixed ?_
   refine aM 0 ?_;refine dv 1 ?_;refine aM 2 ?_;refine dv 3 ?_;refine dv 4 ?_;refine dv 5 ?_
   refine lS 6 (dN (f:=(cF false)) (z:=14) (o:=2) (us:=(Fr4.of (aW us (k)).n).tr false) (dQ false) (dC (by omega)) (Nat.le_of_ble_eq_true rfl) rfl) ?_
   refine aF 7 rfl (jS (Qn.of (p:=(bI (us.take k) y)) hk2) (Qn.of (p:=(aW us (k)).n) hn9) hk2 hn9) oE ⟨aB rfl,aB rfl,rfl⟩ (qF (.of ((bI (us.take k) y)+(aW us (k)).n))) ?_
   refine dst 8 ?_;refine aH ?_;refine rl ?_;refine o1 ?_;refine o1 ?_;refine WL.cast (t:=14) (u':=.int .i64 ((k+1:Nat):Int)) rfl (aO (by omega)) ?_
   refine o1 ?_;refine nl ?_;have hst:(bI (us.take (k+1)) y)=(bI (us.take k) y)+(aW us k).n:=(oG (by omega)).trans (if_pos h2)
   exact⟨k+1,by omega,by omega,dP h0 [0,1,2,3] _ _ (by decide) rfl ⟨rfl,rfl,rfl,rfl,rfl,trivial⟩ ⟨aD rfl,oe rfl rfl,oe rfl rfl,aD (congrArg (fun q=>some (⟨49,0,((Fr4.of q).tr false).map .t⟩:Ob)) hst.symm),rfl⟩⟩
  refine sk ?_;refine rl ?_;refine o1 ?_;refine o1 ?_;refine WL.cast (t:=14) (u':=.int .i64 ((k+1:Nat):Int)) rfl (aO (by omega)) ?_
  refine o1 ?_;refine nl ?_;have hst:(bI (us.take (k+1)) y)=(bI (us.take k) y):=(oG (by omega)).trans (if_neg h2)
  exact⟨k+1,by omega,by omega,dP h0 [0,1,2,3] _ _ (by decide) rfl ⟨rfl,rfl,rfl,rfl,rfl,trivial⟩ ⟨aD rfl,oe rfl rfl,oe rfl rfl,aD (congrArg (fun q=>some (⟨49,0,((Fr4.of q).tr false).map .t⟩:Ob)) hst.symm),rfl⟩⟩
 refine ex ?_;refine sq ?_;refine rl ?_;refine ld ?_;refine st ?_;refine nl ?_;refine rt ?_;have hfin:(bI (us.take k) y)=bI us y:=by rw[List.take_of_length_le (by omega)]
 exact gX <| gO (lent':=[⟨51,14,cR us⟩]) (.inl rfl) rfl (aN (.agg (.cons (.id rfl) (.cons (.id rfl) (.cons (.id rfl) (.cons (.id rfl) .nil)))))) (by decide) (fun _ h=>by cases h) ⟨⟨rfl,rfl⟩,trivial⟩ ⟨rfl,trivial⟩ ⟨eK _,trivial⟩ (fun h=>by cases h) ⟨rfl,by rw[hfin];rfl⟩
theorem mZ {us:List Us}{y:Int}{m9:Nat}{rs:List Rw}(hus:UsOk us) (hl:us.length≤10000):aE false Tryz.prog 21 [⟨51,14,cR us⟩,⟨68,24,fH rs⟩] [.agg [.sl 1 0 m9,.sl 0 0 us.length],.one (tv (.int .i64 y))] (Rt [⟨51,14,cR us⟩,⟨68,24,fH rs⟩] (qF (.of (bI us y)))):=by
 refine kS Tryz.func21 rfl Tryz.ntmps21 rfl aA rfl fun N9 M9 w9 c0 h0=>?_
 refine sq ?_;refine rl ?_;refine bx 2 ?_;refine al 3 ?_;refine nl ?_;refine sq ?_;refine rl ?_;refine ca (eZ) iU rfl (qF (.of ((0:Int):Rat))) ?_;refine al 4 ?_;refine st ?_
 refine nl ?_;refine sq ?_;refine sq ?_;refine rl ?_;refine o1 ?_;refine nl ?_;refine bl ?_
 refine lp (γ:=Nat) (fun k=>cG [(1,.one (tv (.int .i64 y))),(2,.one (.pt 2 0)),(4,.one (.pt 3 0)),(5,.one (.pt 4 0)),(6,.one (tv (.int .i64 ((k:Nat):Int))))]) (fun k=>[(⟨51,14,cR us⟩:Ob),⟨68,24,fH rs⟩,⟨42,0,[.sl 1 0 (m9),.sl 0 0 (us.length)]⟩,⟨49,0,[tv (.bool false),tv (.slice none 0 0),tv (.bool false),tv (.slice none 0 0)]⟩,⟨49,0,((Fr4.of (bI (us.take k) y)).tr false).map .t⟩].map some) (fun k=>k≤us.length) (fun k=>us.length-k) 0 (Nat.zero_le _) (dP h0 [0,1,2,3,4] _ _ (by decide) rfl ⟨rfl,rfl,rfl,rfl,rfl,trivial⟩ ⟨aD rfl,aD rfl,oe rfl rfl,oe rfl rfl,aD rfl,rfl⟩) fun k hk=>?_
 have hk2:Sz 17179869184 (bI (us.take k) y):=(yS (k:=k) hus hl).mono (by omega)
 refine sq ?_;refine sq ?_;refine rl ?_;refine o1 ?_;refine o1 ?_;refine ld ?_;refine o1 ?_;refine o1 ?_;refine nl ?_;refine bQ rfl (fun h1=>?_) (fun h1=>?_)
 ·refine sk ?_;refine sq ?_;refine bl ?_;refine sq ?_;refine rl ?_;refine o1 ?_;refine ld ?_;(iterate 3 refine o1 ?_)
  refine Kd (l:=cR us) (v:=tv (.int .i64 (aW us (k)).y)) ((rV (f:=(cF false)) (z:=14) (k:=k) (o:=1) (xs:=us) (x:=aW us k) (dQ false) (dC (by omega)) (by decide)).trans rfl) ?_
  refine o1 ?_;refine o1 ?_;refine nl ?_;refine bQ rfl (fun h2=>?_) (fun h2=>?_)
  ·have hn9:Sz 17179869184 (aW us k).n:=(hus _ (jG (by omega))).1.mono (by omega)
   refine rd [0,2,3,4] (fun i=>[8].contains i) mixed ?_
   refine aM 0 ?_;refine dv 1 ?_;refine aM 2 ?_;refine dv 3 ?_;refine dv 4 ?_;refine dv 5 ?_
   refine lS 6 (dN (f:=(cF false)) (z:=14) (o:=2) (us:=(Fr4.of (aW us (k)).n).tr false) (dQ false) (dC (by omega)) (Nat.le_of_ble_eq_true rfl) rfl) ?_
   refine aF 7 rfl (jS (Qn.of (p:=(bI (us.take k) y)) hk2) (Qn.of (p:=(aW us (k)).n) hn9) hk2 hn9) oE ⟨aB rfl,aB rfl,rfl⟩ (qF (.of ((bI (us.take k) y)+(aW us (k)).n))) ?_
   refine dst 8 ?_;refine aH ?_;refine rl ?_;refine o1 ?_;refine o1 ?_;refine WL.cast (t:=14) (u':=.int .i64 ((k+1:Nat):Int)) rfl (aO (by omega)) ?_
   refine o1 ?_;refine nl ?_;have hst:(bI (us.take (k+1)) y)=(bI (us.take k) y)+(aW us k).n:=(oG (by omega)).trans (if_pos h2)
   exact⟨k+1,by omega,by omega,dP h0 [0,1,2,3,4] _ _ (by decide) rfl ⟨rfl,rfl,rfl,rfl,rfl,trivial⟩ ⟨aD rfl,aD rfl,oe rfl rfl,oe rfl rfl,aD (congrArg (fun q=>some (⟨49,0,((Fr4.of q).tr false).map .t⟩:Ob)) hst.symm),rfl⟩⟩
  refine sk ?_;refine rl ?_;refine o1 ?_;refine o1 ?_;refine WL.cast (t:=14) (u':=.int .i64 ((k+1:Nat):Int)) rfl (aO (by omega)) ?_
  refine o1 ?_;refine nl ?_;have hst:(bI (us.take (k+1)) y)=(bI (us.take k) y):=(oG (by omega)).trans (if_neg h2)
  exact⟨k+1,by omega,by omega,dP h0 [0,1,2,3,4] _ _ (by decide) rfl ⟨rfl,rfl,rfl,rfl,rfl,trivial⟩ ⟨aD rfl,aD rfl,oe rfl rfl,oe rfl rfl,aD (congrArg (fun q=>some (⟨49,0,((Fr4.of q).tr false).map .t⟩:Ob)) hst.symm),rfl⟩⟩
 refine ex ?_;refine sq ?_;refine rl ?_;refine ld ?_;refine st ?_;refine nl ?_;refine rt ?_;have hfin:(bI (us.take k) y)=bI us y:=by rw[List.take_of_length_le (by omega)]
 exact gX <| gO (lent':=[⟨51,14,cR us⟩,⟨68,24,fH rs⟩]) (.inl rfl) rfl (aN (.agg (.cons (.id rfl) (.cons (.id rfl) (.cons (.id rfl) (.cons (.id rfl) .nil)))))) (by decide) (fun _ h=>by cases h) ⟨⟨rfl,rfl⟩,⟨rfl,rfl⟩,trivial⟩ ⟨rfl,rfl,trivial⟩ ⟨eK _,eK _,trivial⟩ (fun h=>by cases h) ⟨rfl,by rw[hfin];rfl⟩
theorem Vu {us:List Us}{y:Int}{rs:List Rw}(hus:UsOk us) (hl:us.length≤10000):aE false Tryz.prog 21 [] [.agg (([mW false rs,lQ false us]:List Tr).map .t),.one (tv (.int .i64 y))] (aQ (qF (.of (bI us y)))):=by
 refine bO Tryz.func21 rfl Tryz.ntmps21 rfl aA rfl fun N w c0 h0=>?_
 refine sq ?_;refine rl ?_;refine bx 0 ?_;refine al 1 ?_;refine nl ?_;refine sq ?_;refine rl ?_;refine ca (eZ) iU rfl (qF (.of ((0:Int):Rat))) ?_;refine al 2 ?_;refine st ?_
 refine nl ?_;refine sq ?_;refine sq ?_;refine rl ?_;refine o1 ?_;refine nl ?_;refine bl ?_
 refine lp (γ:=Nat) (fun k=>cG [(1,.one (tv (.int .i64 y))),(2,.one (.pt 0 0)),(4,.one (.pt 1 0)),(5,.one (.pt 2 0)),(6,.one (tv (.int .i64 ((k:Nat):Int))))]) (fun k=>[(⟨42,0,[.t (mW false rs),.t (lQ false us)]⟩:Ob),⟨49,0,[tv (.bool false),tv (.slice none 0 0),tv (.bool false),tv (.slice none 0 0)]⟩,⟨49,0,((Fr4.of (bI (us.take k) y)).tr false).map .t⟩].map some) (fun k=>k≤us.length) (fun k=>us.length-k) 0 (Nat.zero_le _) (aP h0 [0,1,2] _ _ (by decide) ⟨rfl,rfl,rfl,rfl,rfl,trivial⟩ ⟨oe rfl rfl,oe rfl rfl,aD rfl,rfl⟩) fun k hk=>?_
 have hk2:Sz 17179869184 (bI (us.take k) y):=(yS (k:=k) hus hl).mono (by omega)
 refine sq ?_;refine sq ?_;refine rl ?_;refine o1 ?_;refine o1 ?_;refine ld ?_;refine o1 ?_;refine o1 ?_;refine nl ?_;refine bQ rfl (fun h1=>?_) (fun h1=>?_)
 ·refine sk ?_;refine sq ?_;refine bl ?_;refine sq ?_;refine rl ?_;refine o1 ?_;refine ld ?_;(iterate 3 refine o1 ?_)
  refine gJ ([.v (.int .i64 (aW us (k)).y)]) (aX (f:=(cF false)) (z:=14) (o:=1) (dQ false) (dC (by omega)) (Nat.le_of_ble_eq_true rfl) rfl) ?_
  refine o1 ?_;refine o1 ?_;refine nl ?_;refine bQ rfl (fun h2=>?_) (fun h2=>?_)
  ·have hn9:Sz 17179869184 (aW us k).n:=(hus _ (jG (by omega))).1.mono (by omega)
   refine rd [0,1,2] (fun i=>[8].contains i) mixed ?_
   refine aM 0 ?_;refine dv 1 ?_;refine aM 2 ?_;refine dv 3 ?_;refine dv 4 ?_;refine dv 5 ?_
   refine dG 6 ((Fr4.of (aW us (k)).n).tr false) (aX (f:=(cF false)) (z:=14) (o:=2) (dQ false) (dC (by omega)) (Nat.le_of_ble_eq_true rfl) rfl) ?_
   refine aF 7 rfl (jS (Qn.of (p:=(bI (us.take k) y)) hk2) (Qn.of (p:=(aW us (k)).n) hn9) hk2 hn9) oE ⟨aB rfl,aB rfl,rfl⟩ (qF (.of ((bI (us.take k) y)+(aW us (k)).n))) ?_
   refine dst 8 ?_;refine aH ?_;refine rl ?_;refine o1 ?_;refine o1 ?_;refine WL.cast (t:=14) (u':=.int .i64 ((k+1:Nat):Int)) rfl (aO (by omega)) ?_
   refine o1 ?_;refine nl ?_;have hst:(bI (us.take (k+1)) y)=(bI (us.take k) y)+(aW us k).n:=(oG (by omega)).trans (if_pos h2)
   exact⟨k+1,by omega,by omega,aP h0 [0,1,2] _ _ (by decide) ⟨rfl,rfl,rfl,rfl,rfl,trivial⟩ ⟨oe rfl rfl,oe rfl rfl,aD (congrArg (fun q=>some (⟨49,0,((Fr4.of q).tr false).map .t⟩:Ob)) hst.symm),rfl⟩⟩
  refine sk ?_;refine rl ?_;refine o1 ?_;refine o1 ?_;refine WL.cast (t:=14) (u':=.int .i64 ((k+1:Nat):Int)) rfl (aO (by omega)) ?_
  refine o1 ?_;refine nl ?_;have hst:(bI (us.take (k+1)) y)=(bI (us.take k) y):=(oG (by omega)).trans (if_neg h2)
  exact⟨k+1,by omega,by omega,aP h0 [0,1,2] _ _ (by decide) ⟨rfl,rfl,rfl,rfl,rfl,trivial⟩ ⟨oe rfl rfl,oe rfl rfl,aD (congrArg (fun q=>some (⟨49,0,((Fr4.of q).tr false).map .t⟩:Ob)) hst.symm),rfl⟩⟩
 refine ex ?_;refine sq ?_;refine rl ?_;refine ld ?_;refine st ?_;refine nl ?_;refine rt ?_;have hfin:(bI (us.take k) y)=bI us y:=by rw[List.take_of_length_le (by omega)]
 exact en (.inl rfl) rfl (aN (.agg (.cons (.id rfl) (.cons (.id rfl) (.cons (.id rfl) (.cons (.id rfl) .nil)))))) (by decide) (fun h=>by cases h) (by rw[hfin];rfl)
theorem Ko {us:List Us}{y:Int}(hus:UsOk us) (hl:us.length≤10000):aE false Tryz.prog 19 [⟨51,14,cR us⟩] [.agg [tv (.slice none 0 0),.sl 0 0 us.length],.one (tv (.int .i64 y))] (Rt [⟨51,14,cR us⟩] (qF (.of (dT us y)))):=by
 refine kS Tryz.func19 rfl Tryz.ntmps19 rfl aA rfl fun N9 M9 w9 c0 h0=>?_
 refine sq ?_;refine rl ?_;refine bx 1 ?_;refine al 2 ?_;refine nl ?_;refine sq ?_;refine rl ?_;refine ca (eZ) iU rfl (qF (.of ((0:Int):Rat))) ?_;refine al 3 ?_;refine st ?_
 refine nl ?_;refine sq ?_;refine sq ?_;refine rl ?_;refine o1 ?_;refine nl ?_;refine bl ?_
 refine lp (γ:=Nat) (fun k=>cG [(1,.one (tv (.int .i64 y))),(2,.one (.pt 1 0)),(4,.one (.pt 2 0)),(5,.one (.pt 3 0)),(6,.one (tv (.int .i64 ((k:Nat):Int))))]) (fun k=>[(⟨51,14,cR us⟩:Ob),⟨42,0,[tv (.slice none 0 0),.sl 0 0 (us.length)]⟩,⟨49,0,[tv (.bool false),tv (.slice none 0 0),tv (.bool false),tv (.slice none 0 0)]⟩,⟨49,0,((Fr4.of (dT (us.take k) y)).tr false).map .t⟩].map some) (fun k=>k≤us.length) (fun k=>us.length-k) 0 (Nat.zero_le _) (dP h0 [0,1,2,3] _ _ (by decide) rfl ⟨rfl,rfl,rfl,rfl,rfl,trivial⟩ ⟨aD rfl,oe rfl rfl,oe rfl rfl,aD rfl,rfl⟩) fun k hk=>?_
 have hk2:Sz 17179869184 (dT (us.take k) y):=(mY (k:=k) hus hl).mono (by omega)
 refine sq ?_;refine sq ?_;refine rl ?_;refine o1 ?_;refine o1 ?_;refine ld ?_;refine o1 ?_;refine o1 ?_;refine nl ?_;refine bQ rfl (fun h1=>?_) (fun h1=>?_)
 ·refine sk ?_;refine sq ?_;refine bl ?_;refine sq ?_;refine rl ?_;refine o1 ?_;refine ld ?_;(iterate 3 refine o1 ?_)
  refine Kd (l:=cR us) (v:=tv (.int .i64 (aW us (k)).v)) ((rV (f:=(cF false)) (z:=14) (k:=k) (o:=0) (xs:=us) (x:=aW us k) (dQ false) (dC (by omega)) (by decide)).trans rfl) ?_
  refine o1 ?_;refine o1 ?_;refine nl ?_;refine bQ rfl (fun h2=>?_) (fun h2=>?_)
  ·have hn9:Sz 17179869184 (aW us k).n:=(hus _ (jG (by omega))).1.mono (by omega)
   refine rd [0,1,2,3] (fun i=>[8].contains i) mixed ?_
   refine aM 0 ?_;refine dv 1 ?_;refine aM 2 ?_;refine dv 3 ?_;refine dv 4 ?_;refine dv 5 ?_
   refine lS 6 (dN (f:=(cF false)) (z:=14) (o:=2) (us:=(Fr4.of (aW us (k)).n).tr false) (dQ false) (dC (by omega)) (Nat.le_of_ble_eq_true rfl) rfl) ?_
   refine aF 7 rfl (jS (Qn.of (p:=(dT (us.take k) y)) hk2) (Qn.of (p:=(aW us (k)).n) hn9) hk2 hn9) oE ⟨aB rfl,aB rfl,rfl⟩ (qF (.of ((dT (us.take k) y)+(aW us (k)).n))) ?_
   refine dst 8 ?_;refine aH ?_;refine rl ?_;refine o1 ?_;refine o1 ?_;refine WL.cast (t:=14) (u':=.int .i64 ((k+1:Nat):Int)) rfl (aO (by omega)) ?_
   refine o1 ?_;refine nl ?_;have hst:(dT (us.take (k+1)) y)=(dT (us.take k) y)+(aW us k).n:=(oH (by omega)).trans (if_pos h2)
   exact⟨k+1,by omega,by omega,dP h0 [0,1,2,3] _ _ (by decide) rfl ⟨rfl,rfl,rfl,rfl,rfl,trivial⟩ ⟨aD rfl,oe rfl rfl,oe rfl rfl,aD (congrArg (fun q=>some (⟨49,0,((Fr4.of q).tr false).map .t⟩:Ob)) hst.symm),rfl⟩⟩
  refine sk ?_;refine rl ?_;refine o1 ?_;refine o1 ?_;refine WL.cast (t:=14) (u':=.int .i64 ((k+1:Nat):Int)) rfl (aO (by omega)) ?_
  refine o1 ?_;refine nl ?_;have hst:(dT (us.take (k+1)) y)=(dT (us.take k) y):=(oH (by omega)).trans (if_neg h2)
  exact⟨k+1,by omega,by omega,dP h0 [0,1,2,3] _ _ (by decide) rfl ⟨rfl,rfl,rfl,rfl,rfl,trivial⟩ ⟨aD rfl,oe rfl rfl,oe rfl rfl,aD (congrArg (fun q=>some (⟨49,0,((Fr4.of q).tr false).map .t⟩:Ob)) hst.symm),rfl⟩⟩
 refine ex ?_;refine sq ?_;refine rl ?_;refine ld ?_;refine st ?_;refine nl ?_;refine rt ?_;have hfin:(dT (us.take k) y)=dT us y:=by rw[List.take_of_length_le (by omega)]
 exact gX <| gO (lent':=[⟨51,14,cR us⟩]) (.inl rfl) rfl (aN (.agg (.cons (.id rfl) (.cons (.id rfl) (.cons (.id rfl) (.cons (.id rfl) .nil)))))) (by decide) (fun _ h=>by cases h) ⟨⟨rfl,rfl⟩,trivial⟩ ⟨rfl,trivial⟩ ⟨eK _,trivial⟩ (fun h=>by cases h) ⟨rfl,by rw[hfin];rfl⟩
theorem Kq {us:List Us}{y:Int}{m9:Nat}{rs:List Rw}(hus:UsOk us) (hl:us.length≤10000):aE false Tryz.prog 19 [⟨51,14,cR us⟩,⟨68,24,fH rs⟩] [.agg [.sl 1 0 m9,.sl 0 0 us.length],.one (tv (.int .i64 y))] (Rt [⟨51,14,cR us⟩,⟨68,24,fH rs⟩] (qF (.of (dT us y)))):=by
 refine kS Tryz.func19 rfl Tryz.ntmps19 rfl aA rfl fun N9 M9 w9 c0 h0=>?_
 refine sq ?_;refine rl ?_;refine bx 2 ?_;refine al 3 ?_;refine nl ?_;refine sq ?_;refine rl ?_;refine ca (eZ) iU rfl (qF (.of ((0:Int):Rat))) ?_;refine al 4 ?_;refine st ?_
 refine nl ?_;refine sq ?_;refine sq ?_;refine rl ?_;refine o1 ?_;refine nl ?_;refine bl ?_
 refine lp (γ:=Nat) (fun k=>cG [(1,.one (tv (.int .i64 y))),(2,.one (.pt 2 0)),(4,.one (.pt 3 0)),(5,.one (.pt 4 0)),(6,.one (tv (.int .i64 ((k:Nat):Int))))]) (fun k=>[(⟨51,14,cR us⟩:Ob),⟨68,24,fH rs⟩,⟨42,0,[.sl 1 0 (m9),.sl 0 0 (us.length)]⟩,⟨49,0,[tv (.bool false),tv (.slice none 0 0),tv (.bool false),tv (.slice none 0 0)]⟩,⟨49,0,((Fr4.of (dT (us.take k) y)).tr false).map .t⟩].map some) (fun k=>k≤us.length) (fun k=>us.length-k) 0 (Nat.zero_le _) (dP h0 [0,1,2,3,4] _ _ (by decide) rfl ⟨rfl,rfl,rfl,rfl,rfl,trivial⟩ ⟨aD rfl,aD rfl,oe rfl rfl,oe rfl rfl,aD rfl,rfl⟩) fun k hk=>?_
 have hk2:Sz 17179869184 (dT (us.take k) y):=(mY (k:=k) hus hl).mono (by omega)
 refine sq ?_;refine sq ?_;refine rl ?_;refine o1 ?_;refine o1 ?_;refine ld ?_;refine o1 ?_;refine o1 ?_;refine nl ?_;refine bQ rfl (fun h1=>?_) (fun h1=>?_)
 ·refine sk ?_;refine sq ?_;refine bl ?_;refine sq ?_;refine rl ?_;refine o1 ?_;refine ld ?_;(iterate 3 refine o1 ?_)
  refine Kd (l:=cR us) (v:=tv (.int .i64 (aW us (k)).v)) ((rV (f:=(cF false)) (z:=14) (k:=k) (o:=0) (xs:=us) (x:=aW us k) (dQ false) (dC (by omega)) (by decide)).trans rfl) ?_
  refine o1 ?_;refine o1 ?_;refine nl ?_;refine bQ rfl (fun h2=>?_) (fun h2=>?_)
  ·have hn9:Sz 17179869184 (aW us k).n:=(hus _ (jG (by omega))).1.mono (by omega)
   refine rd [0,2,3,4] (fun i=>[8].contains i) mixed ?_
   refine aM 0 ?_;refine dv 1 ?_;refine aM 2 ?_;refine dv 3 ?_;refine dv 4 ?_;refine dv 5 ?_
   refine lS 6 (dN (f:=(cF false)) (z:=14) (o:=2) (us:=(Fr4.of (aW us (k)).n).tr false) (dQ false) (dC (by omega)) (Nat.le_of_ble_eq_true rfl) rfl) ?_
   refine aF 7 rfl (jS (Qn.of (p:=(dT (us.take k) y)) hk2) (Qn.of (p:=(aW us (k)).n) hn9) hk2 hn9) oE ⟨aB rfl,aB rfl,rfl⟩ (qF (.of ((dT (us.take k) y)+(aW us (k)).n))) ?_
   refine dst 8 ?_;refine aH ?_;refine rl ?_;refine o1 ?_;refine o1 ?_;refine WL.cast (t:=14) (u':=.int .i64 ((k+1:Nat):Int)) rfl (aO (by omega)) ?_
   refine o1 ?_;refine nl ?_;have hst:(dT (us.take (k+1)) y)=(dT (us.take k) y)+(aW us k).n:=(oH (by omega)).trans (if_pos h2)
   exact⟨k+1,by omega,by omega,dP h0 [0,1,2,3,4] _ _ (by decide) rfl ⟨rfl,rfl,rfl,rfl,rfl,trivial⟩ ⟨aD rfl,aD rfl,oe rfl rfl,oe rfl rfl,aD (congrArg (fun q=>some (⟨49,0,((Fr4.of q).tr false).map .t⟩:Ob)) hst.symm),rfl⟩⟩
  refine sk ?_;refine rl ?_;refine o1 ?_;refine o1 ?_;refine WL.cast (t:=14) (u':=.int .i64 ((k+1:Nat):Int)) rfl (aO (by omega)) ?_
  refine o1 ?_;refine nl ?_;have hst:(dT (us.take (k+1)) y)=(dT (us.take k) y):=(oH (by omega)).trans (if_neg h2)
  exact⟨k+1,by omega,by omega,dP h0 [0,1,2,3,4] _ _ (by decide) rfl ⟨rfl,rfl,rfl,rfl,rfl,trivial⟩ ⟨aD rfl,aD rfl,oe rfl rfl,oe rfl rfl,aD (congrArg (fun q=>some (⟨49,0,((Fr4.of q).tr false).map .t⟩:Ob)) hst.symm),rfl⟩⟩
 refine ex ?_;refine sq ?_;refine rl ?_;refine ld ?_;refine st ?_;refine nl ?_;refine rt ?_;have hfin:(dT (us.take k) y)=dT us y:=by rw[List.take_of_length_le (by omega)]
 exact gX <| gO (lent':=[⟨51,14,cR us⟩,⟨68,24,fH rs⟩]) (.inl rfl) rfl (aN (.agg (.cons (.id rfl) (.cons (.id rfl) (.cons (.id rfl) (.cons (.id rfl) .nil)))))) (by decide) (fun _ h=>by cases h) ⟨⟨rfl,rfl⟩,⟨rfl,rfl⟩,trivial⟩ ⟨rfl,rfl,trivial⟩ ⟨eK _,eK _,trivial⟩ (fun h=>by cases h) ⟨rfl,by rw[hfin];rfl⟩
theorem Kr {us:List Us}{y:Int}{rs:List Rw}(hus:UsOk us) (hl:us.length≤10000):aE false Tryz.prog 19 [] [.agg (([mW false rs,lQ false us]:List Tr).map .t),.one (tv (.int .i64 y))] (aQ (qF (.of (dT us y)))):=by
 refine bO Tryz.func19 rfl Tryz.ntmps19 rfl aA rfl fun N w c0 h0=>?_
 refine sq ?_;refine rl ?_;refine bx 0 ?_;refine al 1 ?_;refine nl ?_;refine sq ?_;refine rl ?_;refine ca (eZ) iU rfl (qF (.of ((0:Int):Rat))) ?_;refine al 2 ?_;refine st ?_
 refine nl ?_;refine sq ?_;refine sq ?_;refine rl ?_;refine o1 ?_;refine nl ?_;refine bl ?_
 refine lp (γ:=Nat) (fun k=>cG [(1,.one (tv (.int .i64 y))),(2,.one (.pt 0 0)),(4,.one (.pt 1 0)),(5,.one (.pt 2 0)),(6,.one (tv (.int .i64 ((k:Nat):Int))))]) (fun k=>[(⟨42,0,[.t (mW false rs),.t (lQ false us)]⟩:Ob),⟨49,0,[tv (.bool false),tv (.slice none 0 0),tv (.bool false),tv (.slice none 0 0)]⟩,⟨49,0,((Fr4.of (dT (us.take k) y)).tr false).map .t⟩].map some) (fun k=>k≤us.length) (fun k=>us.length-k) 0 (Nat.zero_le _) (aP h0 [0,1,2] _ _ (by decide) ⟨rfl,rfl,rfl,rfl,rfl,trivial⟩ ⟨oe rfl rfl,oe rfl rfl,aD rfl,rfl⟩) fun k hk=>?_
 have hk2:Sz 17179869184 (dT (us.take k) y):=(mY (k:=k) hus hl).mono (by omega)
 refine sq ?_;refine sq ?_;refine rl ?_;refine o1 ?_;refine o1 ?_;refine ld ?_;refine o1 ?_;refine o1 ?_;refine nl ?_;refine bQ rfl (fun h1=>?_) (fun h1=>?_)
 ·refine sk ?_;refine sq ?_;refine bl ?_;refine sq ?_;refine rl ?_;refine o1 ?_;refine ld ?_;(iterate 3 refine o1 ?_)
  refine gJ ([.v (.int .i64 (aW us (k)).v)]) (aX (f:=(cF false)) (z:=14) (o:=0) (dQ false) (dC (by omega)) (Nat.le_of_ble_eq_true rfl) rfl) ?_
  refine o1 ?_;refine o1 ?_;refine nl ?_;refine bQ rfl (fun h2=>?_) (fun h2=>?_)
  ·have hn9:Sz 17179869184 (aW us k).n:=(hus _ (jG (by omega))).1.mono (by omega)
   refine rd [0,1,2] (fun i=>[8].contains i) mixed ?_
   refine aM 0 ?_;refine dv 1 ?_;refine aM 2 ?_;refine dv 3 ?_;refine dv 4 ?_;refine dv 5 ?_
   refine dG 6 ((Fr4.of (aW us (k)).n).tr false) (aX (f:=(cF false)) (z:=14) (o:=2) (dQ false) (dC (by omega)) (Nat.le_of_ble_eq_true rfl) rfl) ?_
   refine aF 7 rfl (jS (Qn.of (p:=(dT (us.take k) y)) hk2) (Qn.of (p:=(aW us (k)).n) hn9) hk2 hn9) oE ⟨aB rfl,aB rfl,rfl⟩ (qF (.of ((dT (us.take k) y)+(aW us (k)).n))) ?_
   refine dst 8 ?_;refine aH ?_;refine rl ?_;refine o1 ?_;refine o1 ?_;refine WL.cast (t:=14) (u':=.int .i64 ((k+1:Nat):Int)) rfl (aO (by omega)) ?_
   refine o1 ?_;refine nl ?_;have hst:(dT (us.take (k+1)) y)=(dT (us.take k) y)+(aW us k).n:=(oH (by omega)).trans (if_pos h2)
   exact⟨k+1,by omega,by omega,aP h0 [0,1,2] _ _ (by decide) ⟨rfl,rfl,rfl,rfl,rfl,trivial⟩ ⟨oe rfl rfl,oe rfl rfl,aD (congrArg (fun q=>some (⟨49,0,((Fr4.of q).tr false).map .t⟩:Ob)) hst.symm),rfl⟩⟩
  refine sk ?_;refine rl ?_;refine o1 ?_;refine o1 ?_;refine WL.cast (t:=14) (u':=.int .i64 ((k+1:Nat):Int)) rfl (aO (by omega)) ?_
  refine o1 ?_;refine nl ?_;have hst:(dT (us.take (k+1)) y)=(dT (us.take k) y):=(oH (by omega)).trans (if_neg h2)
  exact⟨k+1,by omega,by omega,aP h0 [0,1,2] _ _ (by decide) ⟨rfl,rfl,rfl,rfl,rfl,trivial⟩ ⟨oe rfl rfl,oe rfl rfl,aD (congrArg (fun q=>some (⟨49,0,((Fr4.of q).tr false).map .t⟩:Ob)) hst.symm),rfl⟩⟩
 refine ex ?_;refine sq ?_;refine rl ?_;refine ld ?_;refine st ?_;refine nl ?_;refine rt ?_;have hfin:(dT (us.take k) y)=dT us y:=by rw[List.take_of_length_le (by omega)]
 exact en (.inl rfl) rfl (aN (.agg (.cons (.id rfl) (.cons (.id rfl) (.cons (.id rfl) (.cons (.id rfl) .nil)))))) (by decide) (fun h=>by cases h) (by rw[hfin];rfl)
theorem Dp {p q:Rat}(hp:Sz 17179869184 p) (hq:Sz 17179869184 q):aE false Tryz.prog 92 [] [.one (.t (sQ false [Fr4.of p,Fr4.of q]))] (aQ (qF (.of (aT p [q])))):=by
 have h:=KN (xs:=[Fr4.of p,Fr4.of q]) (by simp) (fun x hx=>by
  rcases List.mem_cons.1 hx with rfl | hx
  ·exact⟨(Qn.of hp).1,by rw[Fr4.q_of];exact hp⟩
  rw[List.mem_singleton]at hx
  subst hx
  exact⟨(Qn.of hq).1,by rw[Fr4.q_of];exact hq⟩) (by simp)
 have e:kQ ([Fr4.of p,Fr4.of q].map Fr4.q)=aT p [q]:=by
  simp only[List.map_cons,List.map_nil,Fr4.q_of]
  rfl
 rwa[e]at h
theorem yT {M:Mx}{v:Nat}:abv (-(M.inc v))=M.los v:=by
 unfold Mx.los
 rw[show-(M.inc v)=0-M.inc v by grind]
theorem Ks {M:Mx}{U:List Us}{y k:Nat}:M.fwd U y (k+1)=M.use (M.fwd U y k) (y-M.w+k) y:=by
 unfold Mx.fwd
 rw[List.range'_concat,List.foldl_append]
 simp
theorem Sk {us:List Us}{M:Mx}{N y:Nat}(hOk:M.Ok N) (hI:M.Iv N us) (hy:y<N) (hus:UsOk us) (hl:us.length≤10000):aE false Tryz.prog 46 [⟨51,14,cR us⟩] [.agg [tv (.slice none 0 0),.sl 0 0 us.length],.one (.t (gA (yrs M N))),.one (tv (.int .i64 ((y:Nat):Int)))] (Rt [⟨51,14,cR us⟩] (qF (.of (M.tax us y)))):=by
 refine kS Tryz.func46 rfl Tryz.ntmps46 rfl aA rfl fun N9 M9 w9 c0 h0=>?_
 have hNs:=hOk.n
 have hyl:(yrs M N).length=N:=jQ M N
 have s1:Sz 330 (M.inc y):=hOk.sz_inc hy
 have s2:Sz 330 (M.ring y):=hOk.sz_ring hy
 have s3:Sz 330 (abv (M.inc y)):=gS s1 (by omega)
 have s4:Sz 330 (-(M.inc y)):=kT s1
 have s5:Sz 330 (abv (-(M.inc y))):=gS s4 (by omega)
 have s6:=hI.sz_in hOk hy
 have s7:Sz 661 (M.ring y+bI us y):=kJ s2 s6
 have s8:Sz 8000000 (dT us y):=by have h9:=mY (y:=(y:Int)) (k:=us.length) hus hl;rwa[List.take_length]at h9
 refine sq ?_;refine rl ?_;refine bx 1 ?_;refine al 2 ?_;refine nl ?_;refine sq ?_;refine rd [1,2] (fun i=>[16].contains i) mixed ?_
 refine dv 0 ?_;refine dv 1 ?_;refine dv 2 ?_;refine dv 3 ?_
 refine dG 4 ((Fr4.of (M.inc (y))).tr false) (aX (f:=cA) (z:=8) (o:=0) dB (fM (by omega)) (Nat.le_of_ble_eq_true rfl) rfl) ?_
 refine dv 6 ?_;refine dv 7 ?_;refine dv 8 ?_;refine dv 9 ?_
 refine dG 10 ((Fr4.of (M.ring (y))).tr false) (aX (f:=cA) (z:=8) (o:=4) dB (fM (by omega)) (Nat.le_of_ble_eq_true rfl) rfl) ?_
 refine aM 11 ?_;refine dv 12 ?_;refine aF 5 rfl (gU (Qn.of (p:=(M.inc (y))) s1)) nN ⟨aB rfl,rfl⟩ (qF (.of (abv (M.inc (y))))) ?_
 refine jA 13 3 [0] rfl (rW (us:=us) (y:=(y:Int)) hus hl) qT ⟨aD rfl,rfl⟩ ⟨rfl,rfl,rfl⟩ (ok:=[some ⟨51,14,cR us⟩]) ⟨aD rfl,rfl⟩ ⟨rfl,rfl,trivial⟩ ?_
 refine aF 14 rfl (jS (Qn.of (p:=(M.ring (y))) s2) (Qn.of (p:=(bI us y)) s6) (s2.mono (by omega)) (s6.mono (by omega))) oE ⟨aB rfl,aB rfl,rfl⟩ (qF (.of ((M.ring (y))+(bI us y)))) ?_
 refine aF 15 rfl (lC (Qn.of (p:=(abv (M.inc (y)))) s3) (Qn.of (p:=((M.ring (y))+(bI us y))) s7) (s3.mono (by omega)) (s7.mono (by omega))) qS ⟨aB rfl,aB rfl,rfl⟩ (qF (.of ((abv (M.inc (y)))-((M.ring (y))+(bI us y))))) ?_
 refine dst 16 ?_;refine aH ?_;refine rt ?_
 exact gX <| gO (lent':=[⟨51,14,cR us⟩]) (.inl rfl) rfl (aN (.agg (.cons (.id rfl) (.cons (.id rfl) (.cons (.id rfl) (.cons (.id rfl) .nil)))))) (by decide) (fun _ h=>by cases h) ⟨⟨rfl,rfl⟩,trivial⟩ ⟨rfl,trivial⟩ ⟨eK _,trivial⟩ (fun h=>by cases h) ⟨rfl,rfl⟩
theorem lM {us:List Us}{m9:Nat}{rs:List Rw}{M:Mx}{N y:Nat}(hOk:M.Ok N) (hI:M.Iv N us) (hy:y<N) (hus:UsOk us) (hl:us.length≤10000):aE false Tryz.prog 46 [⟨51,14,cR us⟩,⟨68,24,fH rs⟩] [.agg [.sl 1 0 m9,.sl 0 0 us.length],.one (.t (gA (yrs M N))),.one (tv (.int .i64 ((y:Nat):Int)))] (Rt [⟨51,14,cR us⟩,⟨68,24,fH rs⟩] (qF (.of (M.tax us y)))):=by
 refine kS Tryz.func46 rfl Tryz.ntmps46 rfl aA rfl fun N9 M9 w9 c0 h0=>?_
 have hNs:=hOk.n
 have hyl:(yrs M N).length=N:=jQ M N
 have s1:Sz 330 (M.inc y):=hOk.sz_inc hy
 have s2:Sz 330 (M.ring y):=hOk.sz_ring hy
 have s3:Sz 330 (abv (M.inc y)):=gS s1 (by omega)
 have s4:Sz 330 (-(M.inc y)):=kT s1
 have s5:Sz 330 (abv (-(M.inc y))):=gS s4 (by omega)
 have s6:=hI.sz_in hOk hy
 have s7:Sz 661 (M.ring y+bI us y):=kJ s2 s6
 have s8:Sz 8000000 (dT us y):=by have h9:=mY (y:=(y:Int)) (k:=us.length) hus hl;rwa[List.take_length]at h9
 refine sq ?_;refine rl ?_;refine bx 2 ?_;refine al 3 ?_;refine nl ?_;refine sq ?_;refine rd [2,3] (fun i=>[16].contains i) mixed ?_
 refine dv 0 ?_;refine dv 1 ?_;refine dv 2 ?_;refine dv 3 ?_
 refine dG 4 ((Fr4.of (M.inc (y))).tr false) (aX (f:=cA) (z:=8) (o:=0) dB (fM (by omega)) (Nat.le_of_ble_eq_true rfl) rfl) ?_
 refine dv 6 ?_;refine dv 7 ?_;refine dv 8 ?_;refine dv 9 ?_
 refine dG 10 ((Fr4.of (M.ring (y))).tr false) (aX (f:=cA) (z:=8) (o:=4) dB (fM (by omega)) (Nat.le_of_ble_eq_true rfl) rfl) ?_
 refine aM 11 ?_;refine dv 12 ?_;refine aF 5 rfl (gU (Qn.of (p:=(M.inc (y))) s1)) nN ⟨aB rfl,rfl⟩ (qF (.of (abv (M.inc (y))))) ?_
 refine jA 13 4 [0,1] rfl (mZ (us:=us) (y:=(y:Int)) (rs:=rs) (m9:=m9) hus hl) qT ⟨aD rfl,aD rfl,rfl⟩ ⟨rfl,rfl,rfl⟩ (ok:=[some ⟨51,14,cR us⟩,some ⟨68,24,fH rs⟩]) ⟨aD rfl,aD rfl,rfl⟩ ⟨rfl,rfl,trivial⟩ ?_
 refine aF 14 rfl (jS (Qn.of (p:=(M.ring (y))) s2) (Qn.of (p:=(bI us y)) s6) (s2.mono (by omega)) (s6.mono (by omega))) oE ⟨aB rfl,aB rfl,rfl⟩ (qF (.of ((M.ring (y))+(bI us y)))) ?_
 refine aF 15 rfl (lC (Qn.of (p:=(abv (M.inc (y)))) s3) (Qn.of (p:=((M.ring (y))+(bI us y))) s7) (s3.mono (by omega)) (s7.mono (by omega))) qS ⟨aB rfl,aB rfl,rfl⟩ (qF (.of ((abv (M.inc (y)))-((M.ring (y))+(bI us y))))) ?_
 refine dst 16 ?_;refine aH ?_;refine rt ?_
 exact gX <| gO (lent':=[⟨51,14,cR us⟩,⟨68,24,fH rs⟩]) (.inl rfl) rfl (aN (.agg (.cons (.id rfl) (.cons (.id rfl) (.cons (.id rfl) (.cons (.id rfl) .nil)))))) (by decide) (fun _ h=>by cases h) ⟨⟨rfl,rfl⟩,⟨rfl,rfl⟩,trivial⟩ ⟨rfl,rfl,trivial⟩ ⟨eK _,eK _,trivial⟩ (fun h=>by cases h) ⟨rfl,rfl⟩
theorem Pg {us:List Us}{M:Mx}{N y:Nat}(hOk:M.Ok N) (hI:M.Iv N us) (hy:y<N) (hus:UsOk us) (hl:us.length≤10000):aE false Tryz.prog 48 [⟨51,14,cR us⟩] [.agg [tv (.slice none 0 0),.sl 0 0 us.length],.one (.t (gA (yrs M N))),.one (tv (.int .i64 ((y:Nat):Int)))] (Rt [⟨51,14,cR us⟩] (qF (.of (M.left us y)))):=by
 refine kS Tryz.func48 rfl Tryz.ntmps48 rfl aA rfl fun N9 M9 w9 c0 h0=>?_
 have hNs:=hOk.n
 have hyl:(yrs M N).length=N:=jQ M N
 have s1:Sz 330 (M.inc y):=hOk.sz_inc hy
 have s2:Sz 330 (M.ring y):=hOk.sz_ring hy
 have s3:Sz 330 (abv (M.inc y)):=gS s1 (by omega)
 have s4:Sz 330 (-(M.inc y)):=kT s1
 have s5:Sz 330 (abv (-(M.inc y))):=gS s4 (by omega)
 have s6:=hI.sz_in hOk hy
 have s7:Sz 661 (M.ring y+bI us y):=kJ s2 s6
 have s8:Sz 8000000 (dT us y):=by have h9:=mY (y:=(y:Int)) (k:=us.length) hus hl;rwa[List.take_length]at h9
 refine sq ?_;refine rl ?_;refine bx 1 ?_;refine al 2 ?_;refine nl ?_;refine sq ?_;refine rd [1,2] (fun i=>[11].contains i) mixed ?_
 refine dv 0 ?_;refine dv 1 ?_;refine dv 2 ?_;refine dv 3 ?_
 refine dG 4 ((Fr4.of (M.inc (y))).tr false) (aX (f:=cA) (z:=8) (o:=0) dB (fM (by omega)) (Nat.le_of_ble_eq_true rfl) rfl) ?_
 refine aM 7 ?_;refine dv 8 ?_;refine aF 5 rfl (wW (Qn.of (p:=(M.inc (y))) s1)) Km ⟨aB rfl,rfl⟩ (qF (.of (-(M.inc (y))))) ?_
 refine aF 6 rfl (gU (Qn.of (p:=(-(M.inc (y)))) s4)) nN ⟨aB rfl,rfl⟩ (qF (.of (abv (-(M.inc (y)))))) ?_
 refine jA 9 3 [0] rfl (Ko (us:=us) (y:=(y:Int)) hus hl) Zp ⟨aD rfl,rfl⟩ ⟨rfl,rfl,rfl⟩ (ok:=[some ⟨51,14,cR us⟩]) ⟨aD rfl,rfl⟩ ⟨rfl,rfl,trivial⟩ ?_
 refine aF 10 rfl (lC (Qn.of (p:=(abv (-(M.inc (y))))) s5) (Qn.of (p:=(dT us y)) s8) (s5.mono (by omega)) (s8.mono (by omega))) qS ⟨aB rfl,aB rfl,rfl⟩ (qF (.of ((abv (-(M.inc (y))))-(dT us y)))) ?_
 refine dst 11 ?_;refine aH ?_;refine rt ?_
 exact gX <| gO (lent':=[⟨51,14,cR us⟩]) (.inl rfl) rfl (aN (.agg (.cons (.id rfl) (.cons (.id rfl) (.cons (.id rfl) (.cons (.id rfl) .nil)))))) (by decide) (fun _ h=>by cases h) ⟨⟨rfl,rfl⟩,trivial⟩ ⟨rfl,trivial⟩ ⟨eK _,trivial⟩ (fun h=>by cases h) ⟨rfl,congrArg (fun q=>qF (.of (q-dT us y))) (yT (M:=M) (v:=y))⟩
theorem Ph {us:List Us}{m9:Nat}{rs:List Rw}{M:Mx}{N y:Nat}(hOk:M.Ok N) (hI:M.Iv N us) (hy:y<N) (hus:UsOk us) (hl:us.length≤10000):aE false Tryz.prog 48 [⟨51,14,cR us⟩,⟨68,24,fH rs⟩] [.agg [.sl 1 0 m9,.sl 0 0 us.length],.one (.t (gA (yrs M N))),.one (tv (.int .i64 ((y:Nat):Int)))] (Rt [⟨51,14,cR us⟩,⟨68,24,fH rs⟩] (qF (.of (M.left us y)))):=by
 refine kS Tryz.func48 rfl Tryz.ntmps48 rfl aA rfl fun N9 M9 w9 c0 h0=>?_
 have hNs:=hOk.n
 have hyl:(yrs M N).length=N:=jQ M N
 have s1:Sz 330 (M.inc y):=hOk.sz_inc hy
 have s2:Sz 330 (M.ring y):=hOk.sz_ring hy
 have s3:Sz 330 (abv (M.inc y)):=gS s1 (by omega)
 have s4:Sz 330 (-(M.inc y)):=kT s1
 have s5:Sz 330 (abv (-(M.inc y))):=gS s4 (by omega)
 have s6:=hI.sz_in hOk hy
 have s7:Sz 661 (M.ring y+bI us y):=kJ s2 s6
 have s8:Sz 8000000 (dT us y):=by have h9:=mY (y:=(y:Int)) (k:=us.length) hus hl;rwa[List.take_length]at h9
 refine sq ?_;refine rl ?_;refine bx 2 ?_;refine al 3 ?_;refine nl ?_;refine sq ?_;refine rd [2,3] (fun i=>[11].contains i) mixed ?_
 refine dv 0 ?_;refine dv 1 ?_;refine dv 2 ?_;refine dv 3 ?_
 refine dG 4 ((Fr4.of (M.inc (y))).tr false) (aX (f:=cA) (z:=8) (o:=0) dB (fM (by omega)) (Nat.le_of_ble_eq_true rfl) rfl) ?_
 refine aM 7 ?_;refine dv 8 ?_;refine aF 5 rfl (wW (Qn.of (p:=(M.inc (y))) s1)) Km ⟨aB rfl,rfl⟩ (qF (.of (-(M.inc (y))))) ?_
 refine aF 6 rfl (gU (Qn.of (p:=(-(M.inc (y)))) s4)) nN ⟨aB rfl,rfl⟩ (qF (.of (abv (-(M.inc (y)))))) ?_
 refine jA 9 4 [0,1] rfl (Kq (us:=us) (y:=(y:Int)) (rs:=rs) (m9:=m9) hus hl) Zp ⟨aD rfl,aD rfl,rfl⟩ ⟨rfl,rfl,rfl⟩ (ok:=[some ⟨51,14,cR us⟩,some ⟨68,24,fH rs⟩]) ⟨aD rfl,aD rfl,rfl⟩ ⟨rfl,rfl,trivial⟩ ?_
 refine aF 10 rfl (lC (Qn.of (p:=(abv (-(M.inc (y))))) s5) (Qn.of (p:=(dT us y)) s8) (s5.mono (by omega)) (s8.mono (by omega))) qS ⟨aB rfl,aB rfl,rfl⟩ (qF (.of ((abv (-(M.inc (y))))-(dT us y)))) ?_
 refine dst 11 ?_;refine aH ?_;refine rt ?_
 exact gX <| gO (lent':=[⟨51,14,cR us⟩,⟨68,24,fH rs⟩]) (.inl rfl) rfl (aN (.agg (.cons (.id rfl) (.cons (.id rfl) (.cons (.id rfl) (.cons (.id rfl) .nil)))))) (by decide) (fun _ h=>by cases h) ⟨⟨rfl,rfl⟩,⟨rfl,rfl⟩,trivial⟩ ⟨rfl,rfl,trivial⟩ ⟨eK _,eK _,trivial⟩ (fun h=>by cases h) ⟨rfl,congrArg (fun q=>qF (.of (q-dT us y))) (yT (M:=M) (v:=y))⟩
theorem DB {us:List Us}{M:Mx}{N v y:Nat}(hOk:M.Ok N) (hI:M.Iv N us) (hv:v<N) (hy:y<N) (hus:UsOk us) (hl:us.length≤2000):rX false Tryz.prog 42 [⟨51,14,cR us⟩] [.agg (((Fr4.of M.cap).tr false++[.v (.int .i64 ((M.b:Nat):Int)),.v (.int .i64 ((M.w:Nat):Int))]:List Tr).map .t),.one (.t (gA (yrs M N))),.agg [tv (.slice none 0 0),.sl 0 0 us.length],.one (tv (.int .i64 ((v:Nat):Int))),.one (tv (.int .i64 ((y:Nat):Int)))] (· =.agg [tv (.slice none 0 0),.t (lQ true (M.use us v y))]):=by
 refine RG Tryz.func42 rfl Tryz.ntmps42 rfl aA rfl fun N9 M9 w9 c0 h0=>?_
 have hNs:=hOk.n
 have hyl:(yrs M N).length=N:=jQ M N
 have s1:=hOk.sz_lim hy
 have s2:=hOk.sz_ring hy
 have s3:=hI.sz_in hOk hy
 have s4:Sz 661 (M.ring y+bI us y):=kJ s2 s3
 have s5:Sz 992 (M.lim y-(M.ring y+bI us y)):=oW s1 s4
 have s6:=hI.sz_room hOk hy
 have s7:=hI.sz_left hOk hv
 have s8:Sz 330 (aT (M.left us v) [(M.room us y)]):=pW s7 (fun q hq=>by rw[List.mem_singleton]at hq;rw[hq];exact s6)
 have s9:=hI.sz_tax hOk hy
 refine sq ?_;refine rl ?_;refine bx 1 ?_;refine bx 2 ?_;refine al 3 ?_;refine nl ?_
 refine md (γ:=Unit) (fun _=>cG [(1,.one (.t (gA (yrs M N)))),(3,.one (tv (.int .i64 ((v:Nat):Int)))),(4,.one (tv (.int .i64 ((y:Nat):Int)))),(5,.one (.pt 1 0)),(7,.one (.pt 2 0)),(10,.one (.pt 3 0)),(11,.one (.pt 4 0))]) (fun _=>([⟨51,14,cR us⟩,⟨58,0,((Fr4.of M.cap).tr false++[.v (.int .i64 ((M.b:Nat):Int)),.v (.int .i64 ((M.w:Nat):Int))]:List Tr).map .t⟩,⟨42,0,[tv (.slice none 0 0),.sl 0 0 us.length]⟩,⟨42,0,[tv (.slice none 0 0),tv (.slice none 0 0)]⟩,⟨49,0,((Fr4.of (M.room us y)).tr false).map .t⟩]:List Ob).map some) (fun _=>True) ?_ fun _ _=>?_
 ·refine rd [1,2,3] (fun i=>[18].contains i) mixed ?_
  refine aM 0 ?_;refine dv 1 ?_;refine dv 2 ?_;refine dv 3 ?_
  refine dG 4 (cA (Fr4.of (M.inc (y)),Fr4.of (M.ring (y)))) (aX (f:=cA) (z:=8) (o:=0) dB (fM (by omega)) (Nat.le_of_ble_eq_true rfl) rfl) ?_
  refine dv 6 ?_;refine dv 7 ?_;refine dv 8 ?_;refine dv 9 ?_
  refine dG 10 ((Fr4.of (M.ring (y))).tr false) (aX (f:=cA) (z:=8) (o:=4) dB (fM (by omega)) (Nat.le_of_ble_eq_true rfl) rfl) ?_
  refine aM 11 ?_;refine dv 12 ?_;refine WO.two (i:=5) (j:=17) (by kernel_rfl) ?_ ?_
  ·refine cS 5 rfl (oF (c:=.of M.cap) (a:=.of (M.inc y)) (b:=.of (M.ring y)) (q:=M.cap) (p:=M.inc y) (Qn.of (hOk.cap.mono (M:=330) (by omega))) (Qn.of (hOk.sz_inc hy)) (hOk.cap.mono (by omega)) ((hOk.sz_inc hy).mono (by omega))) Bl ⟨aB rfl,aB rfl,rfl⟩ (qF (.of (M.lim y))) ?_
   refine WO.two (i:=13) (j:=17) (by kernel_rfl) ?_ ?_
   ·refine Ag 13 4 [0] rfl (rW (us:=us) (y:=(y:Int)) hus (by omega)) qT ⟨aD rfl,rfl⟩ ⟨rfl,rfl,rfl⟩ (ok:=[some ⟨51,14,cR us⟩]) ⟨aD rfl,rfl⟩ ⟨rfl,rfl,rfl,trivial⟩ ?_
    refine WO.two (i:=14) (j:=17) (by kernel_rfl) ?_ ?_
    ·refine cS 14 rfl (jS (Qn.of (p:=(M.ring (y))) s2) (Qn.of (p:=(bI us y)) s3) (s2.mono (by omega)) (s3.mono (by omega))) oE ⟨aB rfl,aB rfl,rfl⟩ (qF (.of ((M.ring (y))+(bI us y)))) ?_
     refine WO.two (i:=15) (j:=17) (by kernel_rfl) ?_ ?_
     ·refine cS 15 rfl (lC (Qn.of (p:=(M.lim y)) s1) (Qn.of (p:=((M.ring (y))+(bI us y))) s4) (s1.mono (by omega)) (s4.mono (by omega))) qS ⟨aB rfl,aB rfl,rfl⟩ (qF (.of ((M.lim y)-((M.ring (y))+(bI us y))))) ?_
      refine WO.two (i:=16) (j:=17) (by kernel_rfl) ?_ ?_
      ·refine cS 16 rfl (gU (Qn.of (p:=((M.lim y)-((M.ring (y))+(bI us y)))) s5)) nN ⟨aB rfl,rfl⟩ (qF (.of (abv ((M.lim y)-((M.ring (y))+(bI us y)))))) ?_
       refine eP (key:=4) 17 (by kernel_rfl) rfl rfl aA rfl ⟨rfl,rfl,rfl,trivial⟩ ?_
       refine dst 18 ?_;refine aH ?_
       exact⟨(),trivial,dP h0 [0,1,2,3,4] _ _ (by decide) rfl ⟨rfl,rfl,rfl,rfl,rfl,rfl,rfl,trivial⟩ ⟨aD rfl,oe rfl rfl,oe rfl rfl,oe rfl rfl,aD rfl,rfl⟩⟩
      refine bE (key:=4) 17 rfl rfl aA rfl ⟨rfl,rfl,rfl,trivial⟩ ?_
      refine aF 16 rfl (gU (Qn.of (p:=((M.lim y)-((M.ring (y))+(bI us y)))) s5)) nN ⟨aB rfl,rfl⟩ (qF (.of (abv ((M.lim y)-((M.ring (y))+(bI us y)))))) ?_;refine dst 18 ?_
      refine aH ?_;exact⟨(),trivial,dP h0 [0,1,2,3,4] _ _ (by decide) rfl ⟨rfl,rfl,rfl,rfl,rfl,rfl,rfl,trivial⟩ ⟨aD rfl,oe rfl rfl,oe rfl rfl,oe rfl rfl,aD rfl,rfl⟩⟩
     refine bE (key:=4) 17 rfl rfl aA rfl ⟨rfl,rfl,rfl,trivial⟩ ?_
     refine aF 15 rfl (lC (Qn.of (p:=(M.lim y)) s1) (Qn.of (p:=((M.ring (y))+(bI us y))) s4) (s1.mono (by omega)) (s4.mono (by omega))) qS ⟨aB rfl,aB rfl,rfl⟩ (qF (.of ((M.lim y)-((M.ring (y))+(bI us y))))) ?_
     refine aF 16 rfl (gU (Qn.of (p:=((M.lim y)-((M.ring (y))+(bI us y)))) s5)) nN ⟨aB rfl,rfl⟩ (qF (.of (abv ((M.lim y)-((M.ring (y))+(bI us y)))))) ?_;refine dst 18 ?_
     refine aH ?_;exact⟨(),trivial,dP h0 [0,1,2,3,4] _ _ (by decide) rfl ⟨rfl,rfl,rfl,rfl,rfl,rfl,rfl,trivial⟩ ⟨aD rfl,oe rfl rfl,oe rfl rfl,oe rfl rfl,aD rfl,rfl⟩⟩
    refine bE (key:=4) 17 rfl rfl aA rfl ⟨rfl,rfl,rfl,trivial⟩ ?_
    refine aF 14 rfl (jS (Qn.of (p:=(M.ring (y))) s2) (Qn.of (p:=(bI us y)) s3) (s2.mono (by omega)) (s3.mono (by omega))) oE ⟨aB rfl,aB rfl,rfl⟩ (qF (.of ((M.ring (y))+(bI us y)))) ?_
    refine aF 15 rfl (lC (Qn.of (p:=(M.lim y)) s1) (Qn.of (p:=((M.ring (y))+(bI us y))) s4) (s1.mono (by omega)) (s4.mono (by omega))) qS ⟨aB rfl,aB rfl,rfl⟩ (qF (.of ((M.lim y)-((M.ring (y))+(bI us y))))) ?_
    refine aF 16 rfl (gU (Qn.of (p:=((M.lim y)-((M.ring (y))+(bI us y)))) s5)) nN ⟨aB rfl,rfl⟩ (qF (.of (abv ((M.lim y)-((M.ring (y))+(bI us y)))))) ?_;refine dst 18 ?_
    refine aH ?_;exact⟨(),trivial,dP h0 [0,1,2,3,4] _ _ (by decide) rfl ⟨rfl,rfl,rfl,rfl,rfl,rfl,rfl,trivial⟩ ⟨aD rfl,oe rfl rfl,oe rfl rfl,oe rfl rfl,aD rfl,rfl⟩⟩
   refine bE (key:=4) 17 rfl rfl aA rfl ⟨rfl,rfl,rfl,trivial⟩ ?_
   refine jA 13 5 [0] rfl (rW (us:=us) (y:=(y:Int)) hus (by omega)) qT ⟨aD rfl,rfl⟩ ⟨rfl,rfl,rfl⟩ (ok:=[some ⟨51,14,cR us⟩]) ⟨aD rfl,rfl⟩ ⟨rfl,rfl,rfl,trivial⟩ ?_
   refine aF 14 rfl (jS (Qn.of (p:=(M.ring (y))) s2) (Qn.of (p:=(bI us y)) s3) (s2.mono (by omega)) (s3.mono (by omega))) oE ⟨aB rfl,aB rfl,rfl⟩ (qF (.of ((M.ring (y))+(bI us y)))) ?_
   refine aF 15 rfl (lC (Qn.of (p:=(M.lim y)) s1) (Qn.of (p:=((M.ring (y))+(bI us y))) s4) (s1.mono (by omega)) (s4.mono (by omega))) qS ⟨aB rfl,aB rfl,rfl⟩ (qF (.of ((M.lim y)-((M.ring (y))+(bI us y))))) ?_
   refine aF 16 rfl (gU (Qn.of (p:=((M.lim y)-((M.ring (y))+(bI us y)))) s5)) nN ⟨aB rfl,rfl⟩ (qF (.of (abv ((M.lim y)-((M.ring (y))+(bI us y)))))) ?_;refine dst 18 ?_
   refine aH ?_;exact⟨(),trivial,dP h0 [0,1,2,3,4] _ _ (by decide) rfl ⟨rfl,rfl,rfl,rfl,rfl,rfl,rfl,trivial⟩ ⟨aD rfl,oe rfl rfl,oe rfl rfl,oe rfl rfl,aD rfl,rfl⟩⟩
  refine bE (key:=4) 17 rfl rfl aA rfl ⟨rfl,rfl,rfl,trivial⟩ ?_
  refine aF 5 rfl (oF (c:=.of M.cap) (a:=.of (M.inc y)) (b:=.of (M.ring y)) (q:=M.cap) (p:=M.inc y) (Qn.of (hOk.cap.mono (M:=330) (by omega))) (Qn.of (hOk.sz_inc hy)) (hOk.cap.mono (by omega)) ((hOk.sz_inc hy).mono (by omega))) Bl ⟨aB rfl,aB rfl,rfl⟩ (qF (.of (M.lim y))) ?_
  refine jA 13 5 [0] rfl (rW (us:=us) (y:=(y:Int)) hus (by omega)) qT ⟨aD rfl,rfl⟩ ⟨rfl,rfl,rfl⟩ (ok:=[some ⟨51,14,cR us⟩]) ⟨aD rfl,rfl⟩ ⟨rfl,rfl,rfl,trivial⟩ ?_
  refine aF 14 rfl (jS (Qn.of (p:=(M.ring (y))) s2) (Qn.of (p:=(bI us y)) s3) (s2.mono (by omega)) (s3.mono (by omega))) oE ⟨aB rfl,aB rfl,rfl⟩ (qF (.of ((M.ring (y))+(bI us y)))) ?_
  refine aF 15 rfl (lC (Qn.of (p:=(M.lim y)) s1) (Qn.of (p:=((M.ring (y))+(bI us y))) s4) (s1.mono (by omega)) (s4.mono (by omega))) qS ⟨aB rfl,aB rfl,rfl⟩ (qF (.of ((M.lim y)-((M.ring (y))+(bI us y))))) ?_
  refine aF 16 rfl (gU (Qn.of (p:=((M.lim y)-((M.ring (y))+(bI us y)))) s5)) nN ⟨aB rfl,rfl⟩ (qF (.of (abv ((M.lim y)-((M.ring (y))+(bI us y)))))) ?_;refine dst 18 ?_
  refine aH ?_;exact⟨(),trivial,dP h0 [0,1,2,3,4] _ _ (by decide) rfl ⟨rfl,rfl,rfl,rfl,rfl,rfl,rfl,trivial⟩ ⟨aD rfl,oe rfl rfl,oe rfl rfl,oe rfl rfl,aD rfl,rfl⟩⟩
 refine md (γ:=Unit) (fun _=>cG [(1,.one (.t (gA (yrs M N)))),(3,.one (tv (.int .i64 ((v:Nat):Int)))),(4,.one (tv (.int .i64 ((y:Nat):Int)))),(5,.one (.pt 1 0)),(7,.one (.pt 2 0)),(10,.one (.pt 3 0)),(11,.one (.pt 4 0)),(12,.one (.pt 5 0))]) (fun _=>([⟨51,14,cR us⟩,⟨58,0,((Fr4.of M.cap).tr false++[.v (.int .i64 ((M.b:Nat):Int)),.v (.int .i64 ((M.w:Nat):Int))]:List Tr).map .t⟩,⟨42,0,[tv (.slice none 0 0),.sl 0 0 us.length]⟩,⟨42,0,[tv (.slice none 0 0),tv (.slice none 0 0)]⟩,⟨49,0,((Fr4.of (M.room us y)).tr false).map .t⟩,⟨49,0,((Fr4.of (aT (M.left us v) [(M.room us y)])).tr false).map .t⟩]:List Ob).map some) (fun _=>True) ?_ fun _ _=>?_
 ·refine rd [1,2,3,4] (fun i=>[8].contains i) mixed ?_
  refine aM 0 ?_;refine dv 1 ?_;refine dv 2 ?_;refine aM 4 ?_;refine WO.two (i:=3) (j:=7) (by kernel_rfl) ?_ ?_
  ·refine Ag 3 5 [0] rfl (Pg (us:=us) (M:=M) (N:=N) (y:=v) hOk hI hv hus (by omega)) Sl ⟨aD rfl,rfl⟩ ⟨rfl,rfl,rfl,rfl⟩ (ok:=[some ⟨51,14,cR us⟩]) ⟨aD rfl,rfl⟩ ⟨rfl,rfl,rfl,rfl,trivial⟩ ?_
   refine WO.two (i:=5) (j:=7) (by kernel_rfl) ?_ ?_
   ·refine Ex (key:=5) 5 rfl rfl ⟨rfl,rfl,rfl,rfl,trivial⟩ ?_
    refine jP (i:=36) (k:=5) (t:=49) (t':=49) (z:=4) (n:=2) (l:=([Fr4.of (M.left us v),Fr4.of (M.room us y)]).flatMap (Fr4.tr false)) rfl rfl rfl rfl (.one .sl) (by rfl) (by rfl) ?_
    refine WO.two (i:=6) (j:=7) (by kernel_rfl) ?_ ?_
    ·refine cS 6 rfl (Dp (p:=(M.left us v)) (q:=(M.room us y)) (s7.mono (by omega)) (s6.mono (by omega))) Sn ⟨a1 rfl,rfl⟩ (qF (.of (aT (M.left us v) [(M.room us y)]))) ?_
     refine eP (key:=6) 7 (by kernel_rfl) rfl rfl aA rfl ⟨rfl,rfl,rfl,rfl,trivial⟩ ?_
     refine dst 8 ?_;refine aH ?_
     exact⟨(),trivial,dP h0 [0,1,2,3,4,6] _ _ (by decide) rfl ⟨rfl,rfl,rfl,rfl,rfl,rfl,rfl,rfl,trivial⟩ ⟨aD rfl,oe rfl rfl,oe rfl rfl,oe rfl rfl,aD rfl,aD rfl,rfl⟩⟩
    refine bE (key:=6) 7 rfl rfl aA rfl ⟨rfl,rfl,rfl,rfl,trivial⟩ ?_
    refine aF 6 rfl (Dp (p:=(M.left us v)) (q:=(M.room us y)) (s7.mono (by omega)) (s6.mono (by omega))) Sn ⟨a1 rfl,rfl⟩ (qF (.of (aT (M.left us v) [(M.room us y)]))) ?_
    refine dst 8 ?_;refine aH ?_
    exact⟨(),trivial,dP h0 [0,1,2,3,4,6] _ _ (by decide) rfl ⟨rfl,rfl,rfl,rfl,rfl,rfl,rfl,rfl,trivial⟩ ⟨aD rfl,oe rfl rfl,oe rfl rfl,oe rfl rfl,aD rfl,aD rfl,rfl⟩⟩
   refine bE (key:=5) 7 rfl rfl aA rfl ⟨rfl,rfl,rfl,rfl,trivial⟩ ?_;refine fI (key:=6) 5 (by kernel_rfl) rfl rfl aA rfl ⟨rfl,rfl,rfl,rfl,trivial⟩ ?_
   refine jP (i:=36) (k:=6) (t:=49) (t':=49) (z:=4) (n:=2) (l:=([Fr4.of (M.left us v),Fr4.of (M.room us y)]).flatMap (Fr4.tr false)) rfl rfl rfl rfl (.one .sl) (by rfl) (by rfl) ?_
   refine aF 6 rfl (Dp (p:=(M.left us v)) (q:=(M.room us y)) (s7.mono (by omega)) (s6.mono (by omega))) Sn ⟨a1 rfl,rfl⟩ (qF (.of (aT (M.left us v) [(M.room us y)]))) ?_
   refine dst 8 ?_;refine aH ?_
   exact⟨(),trivial,dP h0 [0,1,2,3,4,5] _ _ (by decide) rfl ⟨rfl,rfl,rfl,rfl,rfl,rfl,rfl,rfl,trivial⟩ ⟨aD rfl,oe rfl rfl,oe rfl rfl,oe rfl rfl,aD rfl,aD rfl,rfl⟩⟩
  refine bE (key:=5) 7 rfl rfl aA rfl ⟨rfl,rfl,rfl,rfl,trivial⟩ ?_
  refine jA 3 6 [0] rfl (Pg (us:=us) (M:=M) (N:=N) (y:=v) hOk hI hv hus (by omega)) Sl ⟨aD rfl,rfl⟩ ⟨rfl,rfl,rfl,rfl⟩ (ok:=[some ⟨51,14,cR us⟩]) ⟨aD rfl,rfl⟩ ⟨rfl,rfl,rfl,rfl,trivial⟩ ?_
  refine fI (key:=6) 5 (by kernel_rfl) rfl rfl aA rfl ⟨rfl,rfl,rfl,rfl,trivial⟩ ?_
  refine jP (i:=36) (k:=6) (t:=49) (t':=49) (z:=4) (n:=2) (l:=([Fr4.of (M.left us v),Fr4.of (M.room us y)]).flatMap (Fr4.tr false)) rfl rfl rfl rfl (.one .sl) (by rfl) (by rfl) ?_
  refine aF 6 rfl (Dp (p:=(M.left us v)) (q:=(M.room us y)) (s7.mono (by omega)) (s6.mono (by omega))) Sn ⟨a1 rfl,rfl⟩ (qF (.of (aT (M.left us v) [(M.room us y)]))) ?_
  refine dst 8 ?_;refine aH ?_
  exact⟨(),trivial,dP h0 [0,1,2,3,4,5] _ _ (by decide) rfl ⟨rfl,rfl,rfl,rfl,rfl,rfl,rfl,rfl,trivial⟩ ⟨aD rfl,oe rfl rfl,oe rfl rfl,oe rfl rfl,aD rfl,aD rfl,rfl⟩⟩
 refine sq ?_;refine sq ?_;refine rl ?_;refine ld ?_
 refine ca (qA (Qn.of (p:=(aT (M.left us v) [(M.room us y)])) s8)) Ff ⟨aB rfl,rfl⟩ (.one (tv (.int .i64 (aT (M.left us v) [(M.room us y)]).num.sign))) ?_;refine o1 ?_;refine nl ?_
 refine bQ rfl (fun h1=>?_) (fun h1=>?_)
 ·refine sq ?_;refine rl ?_;refine ld ?_;refine st ?_;refine nl ?_;refine rt ?_;have hp0:¬0<(aT (M.left us v) [(M.room us y)]):=fun h9=>by have h8:=(jT _).2 h9;omega
  have e2:M.use us v y=us:=mB hp0
  exact gX (en (.inl rfl) rfl (aN (.agg (.cons (.id rfl) (.cons (.sl (trs:=us.flatMap (cF false)) rfl rfl (bB _ _ (eF false _)) (eF false _)) .nil)))) (by decide) (fun h=>by cases h) (by rw[e2];rfl))
 refine sk ?_;refine sq ?_;refine rl ?_;refine ld ?_;refine o1 ?_;refine o1 ?_
 refine cl 6 [0] (Sk (us:=us) (M:=M) (N:=N) (y:=y) hOk hI hy hus (by omega)) Bo ⟨aD rfl,rfl⟩ ⟨rfl,rfl,rfl,rfl⟩ (ok:=[some ⟨51,14,cR us⟩]) ⟨aD rfl,rfl⟩ ?_
 refine al 6 ?_;refine st ?_;refine nl ?_;refine sq ?_;refine rd [1,2,3,4,5,6] (fun i=>[13].contains i) mixed ?_
 refine dv 0 ?_;refine aM 1 ?_;refine dv 2 ?_;refine dv 3 ?_;refine aM 4 ?_;refine aM 5 ?_;refine aM 6 ?_;refine aM 7 ?_
 refine aF 8 rfl (lC (Qn.of (p:=(M.tax us y)) s9) (Qn.of (p:=(aT (M.left us v) [(M.room us y)])) s8) (s9.mono (by omega)) (s8.mono (by omega))) qS ⟨aB rfl,aB rfl,rfl⟩ (qF (.of ((M.tax us y)-(aT (M.left us v) [(M.room us y)])))) ?_
 refine df 9 ?_;refine fI (key:=7) 10 (by kernel_rfl) rfl rfl aA rfl ⟨rfl,rfl,rfl,rfl,rfl,rfl,trivial⟩ ?_
 refine oX (j:=8) (n:=us.length) (l:=cR us) 11 rfl aA rfl rfl rfl (.sl rfl (Fg _)) (.sl rfl rfl rfl) rfl rfl (by omega) (by omega) rfl ⟨rfl,rfl,rfl,rfl,rfl,rfl,trivial⟩ rfl (by kernel_rfl) rfl ?_
 refine dv 12 ?_;refine dst 13 ?_;refine aH ?_;refine sq ?_;refine rl ?_;refine ld ?_;refine st ?_;refine nl ?_;refine rt ?_
 have hp0:0<(aT (M.left us v) [(M.room us y)]):=(jT _).1 (by omega)
 have e2:M.use us v y=us++[(⟨(v:Int),(y:Int),(aT (M.left us v) [(M.room us y)]),(M.tax us y),(M.tax us y)-(aT (M.left us v) [(M.room us y)])⟩:Us)]:=nA hp0
 have hob:cR us++(cF false (⟨(v:Int),(y:Int),(aT (M.left us v) [(M.room us y)]),(M.tax us y),(M.tax us y)-(aT (M.left us v) [(M.room us y)])⟩:Us)).map .t=((us++[(⟨(v:Int),(y:Int),(aT (M.left us v) [(M.room us y)]),(M.tax us y),(M.tax us y)-(aT (M.left us v) [(M.room us y)])⟩:Us)]).flatMap (cF false)).map .t:=Bp us (⟨(v:Int),(y:Int),(aT (M.left us v) [(M.room us y)]),(M.tax us y),(M.tax us y)-(aT (M.left us v) [(M.room us y)])⟩:Us)
 exact gX (en (.inl rfl) rfl (aN (.agg (.cons (.id rfl) (.cons (.sl (trs:=(us++[(⟨(v:Int),(y:Int),(aT (M.left us v) [(M.room us y)]),(M.tax us y),(M.tax us y)-(aT (M.left us v) [(M.room us y)])⟩:Us)]).flatMap (cF false)) (congrArg (fun l:List AV=>some (⟨51,14,l⟩:Ob)) hob) rfl (bB _ _ (by rw[eF,List.length_append];rfl)) (by rw[eF,List.length_append];rfl)) .nil)))) (by decide) (fun h=>by cases h) (by rw[e2];unfold lQ;rw[List.length_append];rfl))
theorem Zq {M:Mx}{U:List Us}{v y:Nat}:(M.use U v y).length≤U.length+1:=by
 by_cases h:0<aT (M.left U v) [M.room U y]
 ·rw[nA h]
  unfold Mx.app
  simp
 rw[mB h]
 omega
theorem Pi {M:Mx}{U:List Us}{y:Nat}:∀{k:Nat},(M.fwd U y k).length≤U.length+k
 | 0=>by unfold Mx.fwd;simp
 | k+1=>by
  rw[Ks]
  have:=Pi (M:=M) (U:=U) (y:=y) (k:=k)
  have:=Zq (M:=M) (U:=M.fwd U y k) (v:=y-M.w+k) (y:=y)
  omega
theorem UsOk.back {M:Mx}{N y:Nat}{U:List Us}(hOk:M.Ok N) (h:UsOk U) (hI:M.Iv N U) (hy:y<N){k:Nat}(hk:k≤y-(y-M.b)):UsOk (M.back U y k):=
 UsOk.fold hOk _ h hI fun U x hx h hI=>by
  have:=List.mem_range'_1.1 hx
  exact⟨h.use hI hOk (by omega) (by omega),hI.use (by omega) (by omega)⟩
theorem UsOk.fwd {M:Mx}{N y:Nat}{U:List Us}(hOk:M.Ok N) (h:UsOk U) (hI:M.Iv N U) (hy:y<N){k:Nat}(hk:k≤y-(y-M.w)):UsOk (M.fwd U y k):=
 UsOk.fold hOk _ h hI fun U x hx h hI=>by
  have:=List.mem_range'_1.1 hx
  exact⟨h.use hI hOk (by omega) (by omega),hI.use (by omega) (by omega)⟩
theorem Zr {c:Fr4}{bk fw:Int}{ys:List (Fr4×Fr4)}(hsm:Sm c ys) (hno:cW c bk fw ys≠0):aE false Tryz.prog 14 [] [.agg ((c.tr false++[.v (.int .i64 bk),.v (.int .i64 fw)]:List Tr).map .t),.one (.t (gA ys))] (aQ (.tup [.agg [.t (mW true []),.t (lQ true [])],.one (tv (.int .i64 (cW c bk fw ys)))])):=by
 refine bO Tryz.func14 rfl Tryz.ntmps14 rfl aA rfl fun N w c0 h0=>?_
 refine sq ?_;refine rl ?_;refine bx 0 ?_;refine al 1 ?_;refine o1 ?_;refine nl ?_;refine sq ?_;refine rl ?_;refine ld ?_;refine o1 ?_
 refine ca (DA hsm) KP ⟨aB rfl,a1 rfl,rfl⟩ (.one (tv (.int .i64 (cW c bk fw ys)))) ?_;refine o1 ?_;refine nl ?_;refine sq ?_;refine sq ?_;refine rl ?_;refine o1 ?_;refine o1 ?_
 refine nl ?_;refine bQ rfl (fun h1=>?_) (fun h1=>?_)
 ·refine sq ?_;refine rl ?_;refine o1 ?_;refine o1 ?_;refine st ?_;refine o1 ?_;refine nl ?_;refine rt ?_
  exact en (.inl rfl) rfl (wM (.cons (.agg (.cons (.nil (t:=68) (z:=24)) (.cons (.nil (t:=51) (z:=14)) .nil))) (.cons (bH _) .nil))) (by decide) (fun h=>by cases h) rfl
 exact absurd hno h1
theorem Vv {M:Mx}{N:Nat}(hOk:M.Ok N) (hsm:Sm (.of M.cap) (yrs M N)) (hok:cW (.of M.cap) (M.b:Int) (M.w:Int) (yrs M N)=0):aE false Tryz.prog 14 [] [.agg (((Fr4.of M.cap).tr false++[.v (.int .i64 ((M.b:Nat):Int)),.v (.int .i64 ((M.w:Nat):Int))]:List Tr).map .t),.one (.t (gA (yrs M N)))] (aQ (.tup [.agg [.t (mW true (M.rows (M.run N) (M.ex N) (M.cl N) N)),.t (lQ true (M.run N))],.one (tv (.int .i64 0))])):=by
 refine JV Tryz.func14 rfl Tryz.ntmps14 rfl aA rfl fun N9 w9 c0 h0=>?_
 have hbs:=hOk.b;have hws:=hOk.w;have hNs:=hOk.n
 have hyl:(yrs M N).length=N:=jQ M N
 refine sq ?_;refine rl ?_;refine bx 0 ?_;refine al 1 ?_;refine o1 ?_;refine nl ?_;refine sq ?_;refine rl ?_;refine ld ?_;refine o1 ?_
 refine ca (DA (c:=.of M.cap) (bk:=(M.b:Int)) (fw:=(M.w:Int)) (ys:=yrs M N) hsm) KP ⟨aB rfl,a1 rfl,rfl⟩ (.one (tv (.int .i64 (cW (.of M.cap) (M.b:Int) (M.w:Int) (yrs M N))))) ?_
 refine o1 ?_;refine nl ?_;refine sq ?_;refine sq ?_;refine rl ?_;refine o1 ?_;refine o1 ?_;refine nl ?_;refine bQ rfl (fun h1=>?_) (fun h1=>?_)
 ·exact absurd hok h1
 refine sk ?_;refine sq ?_;refine rl ?_;refine al 2 ?_;refine nl ?_;refine sq ?_;refine sq ?_;refine WP.sub (Va (j:=2) (key:=3) (e:=51) (z:=14) rfl rfl rfl (.id (.sl .nil))) ?_
 refine rl ?_;refine o1 ?_;refine nl ?_;refine bl ?_
 refine lp (γ:=Nat) (fun y=>cG [(1,.one (.t (gA (yrs M N)))),(2,.one (.pt 0 0)),(4,.one (.pt 1 0)),(5,.one (tv (.int .i64 0))),(7,.one (.pt 2 0)),(8,.one (tv (.int .i64 ((y:Nat):Int))))]) (fun y=>[(⟨58,0,((Fr4.of M.cap).tr false++[.v (.int .i64 ((M.b:Nat):Int)),.v (.int .i64 ((M.w:Nat):Int))]:List Tr).map .t⟩:Ob),⟨42,0,[tv (.slice none 0 0),tv (.slice none 0 0)]⟩,⟨42,0,[tv (.slice none 0 0),.sl 3 0 (M.run y).length]⟩,⟨51,14,cR (M.run y)⟩].map some) (fun y=>y≤N) (fun y=>N-y) 0 (Nat.zero_le _) (aP h0 [0,1,2,3] _ _ (by decide) ⟨rfl,rfl,rfl,rfl,rfl,rfl,trivial⟩ ⟨aD rfl,oe rfl rfl,oe rfl rfl,aD rfl,rfl⟩) fun y hy=>?_
 refine sq ?_;refine sq ?_;refine rl ?_;(iterate 4 refine o1 ?_);refine nl ?_;refine bQ rfl (fun h2=>?_) (fun h2=>?_)
 ·refine sk ?_;refine sq ?_;refine bl ?_;refine sq ?_;refine sq ?_;have hyN:y<N:=by omega
  have hI:=hOk.run (k:=y) (by omega)
  have hU:=UsOk.run hOk (k:=y) (by omega)
  have hrl:=pZ hOk.b hOk.w y
  have s1:=hOk.sz_inc hyN
  refine rl ?_;(iterate 4 refine o1 ?_);refine gJ ((Fr4.of (M.inc (y))).tr false) (aX (f:=cA) (z:=8) (o:=0) dB (fM (by omega)) (Nat.le_of_ble_eq_true rfl) rfl) ?_
  refine ca (qA (Qn.of (p:=(M.inc (y))) s1)) Ff ⟨aB rfl,rfl⟩ (.one (tv (.int .i64 (M.inc (y)).num.sign))) ?_;refine o1 ?_;refine nl ?_;refine bQ rfl (fun h3=>?_) (fun h3=>?_)
  ·refine sq ?_;refine sq ?_;refine rl ?_;refine o1 ?_;refine o1 ?_;refine ld ?_;refine o1 ?_
   refine WL.cast (t:=36) (u':=.int .i64 ((y:Int)-(M.b:Int)+((0:Nat):Int))) rfl (aO (by omega)) ?_
   refine o1 ?_;refine nl ?_;refine bl ?_;have hneg:M.inc y<0:=(mV _).1 h3
   have hU0:(M.run y)=(M.back (M.run y) y (0-(M.b-y))):=by rw[Nat.zero_sub];rfl
   refine lp (γ:=Nat) (fun j=>cG [(1,.one (.t (gA (yrs M N)))),(2,.one (.pt 0 0)),(4,.one (.pt 1 0)),(5,.one (tv (.int .i64 0))),(7,.one (.pt 2 0)),(8,.one (tv (.int .i64 ((y:Nat):Int)))),(9,.one (tv (.int .i64 ((y:Int)-(M.b:Int)+((j:Nat):Int)))))]) (fun j=>[(⟨58,0,((Fr4.of M.cap).tr false++[.v (.int .i64 ((M.b:Nat):Int)),.v (.int .i64 ((M.w:Nat):Int))]:List Tr).map .t⟩:Ob),⟨42,0,[tv (.slice none 0 0),tv (.slice none 0 0)]⟩,⟨42,0,[tv (.slice none 0 0),.sl 3 0 (M.back (M.run y) y (j-(M.b-y))).length]⟩,⟨51,14,cR (M.back (M.run y) y (j-(M.b-y)))⟩].map some) (fun j=>j≤M.b) (fun j=>M.b-j) 0 (Nat.zero_le _) (aP h0 [0,1,2,3] _ _ (by decide) ⟨rfl,rfl,rfl,rfl,rfl,rfl,rfl,trivial⟩ ⟨aD rfl,oe rfl rfl,oe rfl (congrArg (fun V:List Us=>some (⟨42,0,[tv (.slice none 0 0),.sl 3 0 V.length]⟩:Ob)) hU0),aD (congrArg (fun V:List Us=>some (⟨51,14,cR V⟩:Ob)) hU0),rfl⟩) fun j hj=>?_
   refine sq ?_;refine sq ?_;refine rl ?_;(iterate 3 refine o1 ?_);refine nl ?_;refine bQ rfl (fun h4=>?_) (fun h4=>?_)
   ·refine sk ?_;refine sq ?_;refine bl ?_;refine sq ?_;refine rl ?_;refine o1 ?_;refine o1 ?_;refine nl ?_;refine bQ rfl (fun h5=>?_) (fun h5=>?_)
    ·refine rl ?_;refine ld ?_;refine o1 ?_;refine ld ?_;refine o1 ?_;refine o1 ?_
     refine WL.cast (t:=48) (u':=.int .i64 (((y-M.b+(j-(M.b-y))):Nat):Int)) rfl (aO (by omega)) ?_
     have hIj:=hI.back (k:=j-(M.b-y)) hyN (by omega)
     have hUj:=hU.back hOk hI hyN (k:=j-(M.b-y)) (by omega)
     have hlj:=Bb (M:=M) (U:=(M.run y)) (y:=y) (k:=j-(M.b-y))
     refine cm 4 [3] (DB (us:=(M.back (M.run y) y (j-(M.b-y)))) (M:=M) (N:=N) (v:=y) (y:=(y-M.b+(j-(M.b-y)))) hOk hIj (by omega) (by omega) hUj (by omega)) KQ ⟨aD rfl,rfl⟩ ⟨rfl,rfl,rfl,rfl,rfl,rfl⟩ ?_
     refine st ?_;refine nl ?_;refine rl ?_;refine o1 ?_;refine o1 ?_;refine WL.cast (t:=41) (u':=.int .i64 ((y:Int)-(M.b:Int)+((j+1:Nat):Int))) rfl (aO (by omega)) ?_
     refine o1 ?_;refine nl ?_
     have hst:M.use (M.back (M.run y) y (j-(M.b-y))) y (y-M.b+(j-(M.b-y)))=(M.back (M.run y) y ((j+1)-(M.b-y))):=by rw[show j+1-(M.b-y)=j-(M.b-y)+1 by omega];exact mU.symm
     exact⟨j+1,by omega,by omega,aP h0 [0,1,2,4] _ _ (by decide) ⟨rfl,rfl,rfl,rfl,rfl,rfl,rfl,trivial⟩ ⟨aD rfl,oe rfl rfl,oe rfl (congrArg (fun V:List Us=>some (⟨42,0,[tv (.slice none 0 0),.sl 4 0 V.length]⟩:Ob)) hst),aD (congrArg (fun V:List Us=>some (⟨51,14,cR V⟩:Ob)) hst),rfl⟩⟩
    refine sk ?_;refine rl ?_;refine o1 ?_;refine o1 ?_;refine WL.cast (t:=41) (u':=.int .i64 ((y:Int)-(M.b:Int)+((j+1:Nat):Int))) rfl (aO (by omega)) ?_
    refine o1 ?_;refine nl ?_;have hst:(M.back (M.run y) y (j-(M.b-y)))=(M.back (M.run y) y ((j+1)-(M.b-y))):=by rw[show j+1-(M.b-y)=j-(M.b-y) by omega]
    exact⟨j+1,by omega,by omega,aP h0 [0,1,2,3] _ _ (by decide) ⟨rfl,rfl,rfl,rfl,rfl,rfl,rfl,trivial⟩ ⟨aD rfl,oe rfl rfl,oe rfl (congrArg (fun V:List Us=>some (⟨42,0,[tv (.slice none 0 0),.sl 3 0 V.length]⟩:Ob)) hst),aD (congrArg (fun V:List Us=>some (⟨51,14,cR V⟩:Ob)) hst),rfl⟩⟩
   refine ex ?_;have hst:(M.back (M.run y) y (j-(M.b-y)))=M.run (y+1):=by
    show _=M.step (M.run y) y;unfold Mx.step;rw[if_pos hneg,show j-(M.b-y)=y-(y-M.b) by omega]
   refine ex ?_;refine rl ?_;refine o1 ?_;refine o1 ?_;refine WL.cast (t:=25) (u':=.int .i64 ((y+1:Nat):Int)) rfl (aO (by omega)) ?_
   refine o1 ?_;refine nl ?_
   exact⟨y+1,by omega,by omega,aP h0 [0,1,2,3] _ _ (by decide) ⟨rfl,rfl,rfl,rfl,rfl,rfl,trivial⟩ ⟨aD rfl,oe rfl rfl,oe rfl (congrArg (fun V:List Us=>some (⟨42,0,[tv (.slice none 0 0),.sl 3 0 V.length]⟩:Ob)) hst),aD (congrArg (fun V:List Us=>some (⟨51,14,cR V⟩:Ob)) hst),rfl⟩⟩
  refine sk ?_;refine sq ?_;refine rl ?_;refine o1 ?_;refine o1 ?_;refine ld ?_;refine o1 ?_
  refine WL.cast (t:=53) (u':=.int .i64 ((y:Int)-(M.w:Int)+((0:Nat):Int))) rfl (aO (by omega)) ?_
  refine o1 ?_;refine nl ?_;refine bl ?_;have hneg:¬M.inc y<0:=fun h9=>h3 ((mV _).2 h9)
  have hU0:(M.run y)=(M.fwd (M.run y) y (0-(M.w-y))):=by rw[Nat.zero_sub];rfl
  refine lp (γ:=Nat) (fun j=>cG [(1,.one (.t (gA (yrs M N)))),(2,.one (.pt 0 0)),(4,.one (.pt 1 0)),(5,.one (tv (.int .i64 0))),(7,.one (.pt 2 0)),(8,.one (tv (.int .i64 ((y:Nat):Int)))),(10,.one (tv (.int .i64 ((y:Int)-(M.w:Int)+((j:Nat):Int)))))]) (fun j=>[(⟨58,0,((Fr4.of M.cap).tr false++[.v (.int .i64 ((M.b:Nat):Int)),.v (.int .i64 ((M.w:Nat):Int))]:List Tr).map .t⟩:Ob),⟨42,0,[tv (.slice none 0 0),tv (.slice none 0 0)]⟩,⟨42,0,[tv (.slice none 0 0),.sl 3 0 (M.fwd (M.run y) y (j-(M.w-y))).length]⟩,⟨51,14,cR (M.fwd (M.run y) y (j-(M.w-y)))⟩].map some) (fun j=>j≤M.w) (fun j=>M.w-j) 0 (Nat.zero_le _) (aP h0 [0,1,2,3] _ _ (by decide) ⟨rfl,rfl,rfl,rfl,rfl,rfl,rfl,trivial⟩ ⟨aD rfl,oe rfl rfl,oe rfl (congrArg (fun V:List Us=>some (⟨42,0,[tv (.slice none 0 0),.sl 3 0 V.length]⟩:Ob)) hU0),aD (congrArg (fun V:List Us=>some (⟨51,14,cR V⟩:Ob)) hU0),rfl⟩) fun j hj=>?_
  refine sq ?_;refine sq ?_;refine rl ?_;(iterate 3 refine o1 ?_);refine nl ?_;refine bQ rfl (fun h6=>?_) (fun h6=>?_)
  ·refine sk ?_;refine sq ?_;refine bl ?_;refine sq ?_;refine rl ?_;refine o1 ?_;refine o1 ?_;refine nl ?_;refine bQ rfl (fun h7=>?_) (fun h7=>?_)
   ·refine rl ?_;refine ld ?_;refine o1 ?_;refine ld ?_;refine o1 ?_;refine WL.cast (t:=64) (u':=.int .i64 (((y-M.w+(j-(M.w-y))):Nat):Int)) rfl (aO (by omega)) ?_
    refine o1 ?_;have hIj:=hI.fwd (k:=j-(M.w-y)) hyN (by omega)
    have hUj:=hU.fwd hOk hI hyN (k:=j-(M.w-y)) (by omega)
    have hlj:=Pi (M:=M) (U:=(M.run y)) (y:=y) (k:=j-(M.w-y))
    refine cm 4 [3] (DB (us:=(M.fwd (M.run y) y (j-(M.w-y)))) (M:=M) (N:=N) (v:=(y-M.w+(j-(M.w-y)))) (y:=y) hOk hIj (by omega) (by omega) hUj (by omega)) KQ ⟨aD rfl,rfl⟩ ⟨rfl,rfl,rfl,rfl,rfl,rfl⟩ ?_
    refine st ?_;refine nl ?_;refine rl ?_;refine o1 ?_;refine o1 ?_;refine WL.cast (t:=58) (u':=.int .i64 ((y:Int)-(M.w:Int)+((j+1:Nat):Int))) rfl (aO (by omega)) ?_
    refine o1 ?_;refine nl ?_
    have hst:M.use (M.fwd (M.run y) y (j-(M.w-y))) (y-M.w+(j-(M.w-y))) y=(M.fwd (M.run y) y ((j+1)-(M.w-y))):=by rw[show j+1-(M.w-y)=j-(M.w-y)+1 by omega];exact Ks.symm
    exact⟨j+1,by omega,by omega,aP h0 [0,1,2,4] _ _ (by decide) ⟨rfl,rfl,rfl,rfl,rfl,rfl,rfl,trivial⟩ ⟨aD rfl,oe rfl rfl,oe rfl (congrArg (fun V:List Us=>some (⟨42,0,[tv (.slice none 0 0),.sl 4 0 V.length]⟩:Ob)) hst),aD (congrArg (fun V:List Us=>some (⟨51,14,cR V⟩:Ob)) hst),rfl⟩⟩
   refine sk ?_;refine rl ?_;refine o1 ?_;refine o1 ?_;refine WL.cast (t:=58) (u':=.int .i64 ((y:Int)-(M.w:Int)+((j+1:Nat):Int))) rfl (aO (by omega)) ?_
   refine o1 ?_;refine nl ?_;have hst:(M.fwd (M.run y) y (j-(M.w-y)))=(M.fwd (M.run y) y ((j+1)-(M.w-y))):=by rw[show j+1-(M.w-y)=j-(M.w-y) by omega]
   exact⟨j+1,by omega,by omega,aP h0 [0,1,2,3] _ _ (by decide) ⟨rfl,rfl,rfl,rfl,rfl,rfl,rfl,trivial⟩ ⟨aD rfl,oe rfl rfl,oe rfl (congrArg (fun V:List Us=>some (⟨42,0,[tv (.slice none 0 0),.sl 3 0 V.length]⟩:Ob)) hst),aD (congrArg (fun V:List Us=>some (⟨51,14,cR V⟩:Ob)) hst),rfl⟩⟩
  refine ex ?_;have hst:(M.fwd (M.run y) y (j-(M.w-y)))=M.run (y+1):=by
   show _=M.step (M.run y) y;unfold Mx.step;rw[if_neg hneg,show j-(M.w-y)=y-(y-M.w) by omega]
  refine rl ?_;refine o1 ?_;refine o1 ?_;refine WL.cast (t:=25) (u':=.int .i64 ((y+1:Nat):Int)) rfl (aO (by omega)) ?_
  refine o1 ?_;refine nl ?_
  exact⟨y+1,by omega,by omega,aP h0 [0,1,2,3] _ _ (by decide) ⟨rfl,rfl,rfl,rfl,rfl,rfl,trivial⟩ ⟨aD rfl,oe rfl rfl,oe rfl (congrArg (fun V:List Us=>some (⟨42,0,[tv (.slice none 0 0),.sl 3 0 V.length]⟩:Ob)) hst),aD (congrArg (fun V:List Us=>some (⟨51,14,cR V⟩:Ob)) hst),rfl⟩⟩
 refine ex ?_;refine sq ?_;refine sq ?_;have hyN:y=N:=by omega
 rw[hyN];refine WP.sub (Va (j:=2) (key:=4) (e:=68) (z:=24) rfl rfl rfl (.sl (.id .nil))) ?_;have hIN:=hOk.run (Nat.le_refl N)
 have hUN:=UsOk.run hOk (Nat.le_refl N)
 have hrl:=pZ hOk.b hOk.w N
 refine rl ?_;refine o1 ?_;refine nl ?_;refine bl ?_
 refine lp (γ:=Nat) (fun k=>cG [(1,.one (.t (gA (yrs M N)))),(2,.one (.pt 0 0)),(4,.one (.pt 1 0)),(5,.one (tv (.int .i64 0))),(7,.one (.pt 2 0)),(11,.one (tv (.int .i64 ((k:Nat):Int))))]) (fun k=>[(⟨58,0,((Fr4.of M.cap).tr false++[.v (.int .i64 ((M.b:Nat):Int)),.v (.int .i64 ((M.w:Nat):Int))]:List Tr).map .t⟩:Ob),⟨42,0,[tv (.slice none 0 0),tv (.slice none 0 0)]⟩,⟨42,0,[.sl 4 0 (M.rows (M.run N) (M.ex N) (M.cl N) k).length,.sl 3 0 (M.run N).length]⟩,⟨51,14,cR (M.run N)⟩,⟨68,24,fH (M.rows (M.run N) (M.ex N) (M.cl N) k)⟩].map some) (fun k=>k≤N) (fun k=>N-k) 0 (Nat.zero_le _) (aP h0 [0,1,2,3,4] _ _ (by decide) ⟨rfl,rfl,rfl,rfl,rfl,rfl,trivial⟩ ⟨aD rfl,oe rfl rfl,oe rfl rfl,aD rfl,aD rfl,rfl⟩) fun k hk=>?_
 refine sq ?_;refine sq ?_;refine rl ?_;(iterate 4 refine o1 ?_);refine nl ?_;refine bQ rfl (fun h8=>?_) (fun h8=>?_)
 ·refine sk ?_;refine sq ?_;refine bl ?_
  refine md (γ:=Unit) (fun _=>cG [(1,.one (.t (gA (yrs M N)))),(2,.one (.pt 0 0)),(4,.one (.pt 1 0)),(5,.one (tv (.int .i64 ((0:Nat):Int)))),(7,.one (.pt 2 0)),(11,.one (tv (.int .i64 ((k:Nat):Int)))),(12,.one (.pt 5 0))]) (fun _=>([⟨58,0,((Fr4.of M.cap).tr false++[.v (.int .i64 ((M.b:Nat):Int)),.v (.int .i64 ((M.w:Nat):Int))]:List Tr).map .t⟩,⟨42,0,[tv (.slice none 0 0),tv (.slice none 0 0)]⟩,⟨42,0,[.sl 4 0 (M.rows (M.run N) (M.ex N) (M.cl N) k).length,.sl 3 0 (M.run N).length]⟩,⟨51,14,cR (M.run N)⟩,⟨68,24,fH (M.rows (M.run N) (M.ex N) (M.cl N) k)⟩,⟨68,0,(bV false (⟨abv (-(M.inc k)),M.lim k,bI (M.run N) k,M.tax (M.run N) k,((0:Int):Rat),((0:Int):Rat)⟩:Rw)).map .t⟩]:List Ob).map some) (fun _=>True) ?_ fun _ _=>?_
  ·have hkN:k<N:=by omega
   have s1:=hOk.sz_inc hkN
   have s4:Sz 330 (-(M.inc k)):=kT s1
   refine rd [0,1,2] (fun i=>[24].contains i) mixed ?_
   refine dv 0 ?_;refine dv 1 ?_;refine dv 2 ?_;refine dv 3 ?_
   refine dG 4 ((Fr4.of (M.inc (k))).tr false) (aX (f:=cA) (z:=8) (o:=0) dB (fM (by omega)) (Nat.le_of_ble_eq_true rfl) rfl) ?_
   refine aM 7 ?_;refine dv 8 ?_;refine dv 9 ?_;refine dv 10 ?_
   refine dG 11 (cA (Fr4.of (M.inc (k)),Fr4.of (M.ring (k)))) (aX (f:=cA) (z:=8) (o:=0) dB (fM (by omega)) (Nat.le_of_ble_eq_true rfl) rfl) ?_
   refine aM 13 ?_;refine dv 14 ?_;refine aM 16 ?_;refine dv 17 ?_;refine dv 18 ?_;refine WO.two (i:=5) (j:=23) (by kernel_rfl) ?_ ?_
   ·refine cS 5 rfl (wW (Qn.of (p:=(M.inc (k))) s1)) Km ⟨aB rfl,rfl⟩ (qF (.of (-(M.inc (k))))) ?_;refine WO.two (i:=6) (j:=23) (by kernel_rfl) ?_ ?_
    ·refine cS 6 rfl (gU (Qn.of (p:=(-(M.inc (k)))) s4)) nN ⟨aB rfl,rfl⟩ (qF (.of (abv (-(M.inc (k)))))) ?_;refine WO.two (i:=12) (j:=23) (by kernel_rfl) ?_ ?_
     ·refine cS 12 rfl (oF (c:=.of M.cap) (a:=.of (M.inc k)) (b:=.of (M.ring k)) (q:=M.cap) (p:=M.inc k) (Qn.of (hOk.cap.mono (M:=330) (by omega))) (Qn.of s1) (hOk.cap.mono (by omega)) (s1.mono (by omega))) Bl ⟨aB rfl,aB rfl,rfl⟩ (qF (.of (M.lim k))) ?_
      refine WO.two (i:=15) (j:=23) (by kernel_rfl) ?_ ?_
      ·refine Ag 15 5 [3,4] rfl (mZ (us:=(M.run N)) (y:=(k:Int)) (rs:=(M.rows (M.run N) (M.ex N) (M.cl N) k)) (m9:=(M.rows (M.run N) (M.ex N) (M.cl N) k).length) hUN (by omega)) qT ⟨aD rfl,aD rfl,rfl⟩ ⟨rfl,rfl,rfl⟩ (ok:=[some ⟨51,14,cR (M.run N)⟩,some ⟨68,24,fH (M.rows (M.run N) (M.ex N) (M.cl N) k)⟩]) ⟨aD rfl,aD rfl,rfl⟩ ⟨rfl,rfl,rfl,trivial⟩ ?_
       refine WO.two (i:=19) (j:=23) (by kernel_rfl) ?_ ?_
       ·refine Ag 19 5 [3,4] rfl (lM (us:=(M.run N)) (rs:=(M.rows (M.run N) (M.ex N) (M.cl N) k)) (m9:=(M.rows (M.run N) (M.ex N) (M.cl N) k).length) (M:=M) (N:=N) (y:=k) hOk hIN hkN hUN (by omega)) Bo ⟨aD rfl,aD rfl,rfl⟩ ⟨rfl,rfl,rfl,rfl⟩ (ok:=[some ⟨51,14,cR (M.run N)⟩,some ⟨68,24,fH (M.rows (M.run N) (M.ex N) (M.cl N) k)⟩]) ⟨aD rfl,aD rfl,rfl⟩ ⟨rfl,rfl,rfl,trivial⟩ ?_
        refine WO.two (i:=20) (j:=23) (by kernel_rfl) ?_ ?_
        ·refine cS 20 rfl (eZ) iU rfl (qF (.of ((0:Int):Rat))) ?_;refine WO.two (i:=21) (j:=23) (by kernel_rfl) ?_ ?_
         ·refine cS 21 rfl (eZ) iU rfl (qF (.of ((0:Int):Rat))) ?_;refine df 22 ?_;refine eP (key:=5) 23 (by kernel_rfl) rfl rfl aA rfl ⟨rfl,rfl,rfl,trivial⟩ ?_
          refine dst 24 ?_;refine aH ?_
          exact⟨(),trivial,aP h0 [0,1,2,3,4,5] _ _ (by decide) ⟨rfl,rfl,rfl,rfl,rfl,rfl,rfl,trivial⟩ ⟨aD rfl,oe rfl rfl,oe rfl rfl,aD rfl,aD rfl,aD rfl,rfl⟩⟩
         refine bE (key:=5) 23 rfl rfl aA rfl ⟨rfl,rfl,rfl,trivial⟩ ?_;refine aF 21 rfl (eZ) iU rfl (qF (.of ((0:Int):Rat))) ?_;refine df 22 ?_;refine dst 24 ?_
         refine aH ?_
         exact⟨(),trivial,aP h0 [0,1,2,3,4,5] _ _ (by decide) ⟨rfl,rfl,rfl,rfl,rfl,rfl,rfl,trivial⟩ ⟨aD rfl,oe rfl rfl,oe rfl rfl,aD rfl,aD rfl,aD rfl,rfl⟩⟩
        refine bE (key:=5) 23 rfl rfl aA rfl ⟨rfl,rfl,rfl,trivial⟩ ?_;refine aF 20 rfl (eZ) iU rfl (qF (.of ((0:Int):Rat))) ?_
        refine aF 21 rfl (eZ) iU rfl (qF (.of ((0:Int):Rat))) ?_;refine df 22 ?_;refine dst 24 ?_;refine aH ?_
        exact⟨(),trivial,aP h0 [0,1,2,3,4,5] _ _ (by decide) ⟨rfl,rfl,rfl,rfl,rfl,rfl,rfl,trivial⟩ ⟨aD rfl,oe rfl rfl,oe rfl rfl,aD rfl,aD rfl,aD rfl,rfl⟩⟩
       refine bE (key:=5) 23 rfl rfl aA rfl ⟨rfl,rfl,rfl,trivial⟩ ?_
       refine jA 19 6 [3,4] rfl (lM (us:=(M.run N)) (rs:=(M.rows (M.run N) (M.ex N) (M.cl N) k)) (m9:=(M.rows (M.run N) (M.ex N) (M.cl N) k).length) (M:=M) (N:=N) (y:=k) hOk hIN hkN hUN (by omega)) Bo ⟨aD rfl,aD rfl,rfl⟩ ⟨rfl,rfl,rfl,rfl⟩ (ok:=[some ⟨51,14,cR (M.run N)⟩,some ⟨68,24,fH (M.rows (M.run N) (M.ex N) (M.cl N) k)⟩]) ⟨aD rfl,aD rfl,rfl⟩ ⟨rfl,rfl,rfl,trivial⟩ ?_
       refine aF 20 rfl (eZ) iU rfl (qF (.of ((0:Int):Rat))) ?_;refine aF 21 rfl (eZ) iU rfl (qF (.of ((0:Int):Rat))) ?_;refine df 22 ?_;refine dst 24 ?_
       refine aH ?_
       exact⟨(),trivial,aP h0 [0,1,2,3,4,5] _ _ (by decide) ⟨rfl,rfl,rfl,rfl,rfl,rfl,rfl,trivial⟩ ⟨aD rfl,oe rfl rfl,oe rfl rfl,aD rfl,aD rfl,aD rfl,rfl⟩⟩
      refine bE (key:=5) 23 rfl rfl aA rfl ⟨rfl,rfl,rfl,trivial⟩ ?_
      refine jA 15 6 [3,4] rfl (mZ (us:=(M.run N)) (y:=(k:Int)) (rs:=(M.rows (M.run N) (M.ex N) (M.cl N) k)) (m9:=(M.rows (M.run N) (M.ex N) (M.cl N) k).length) hUN (by omega)) qT ⟨aD rfl,aD rfl,rfl⟩ ⟨rfl,rfl,rfl⟩ (ok:=[some ⟨51,14,cR (M.run N)⟩,some ⟨68,24,fH (M.rows (M.run N) (M.ex N) (M.cl N) k)⟩]) ⟨aD rfl,aD rfl,rfl⟩ ⟨rfl,rfl,rfl,trivial⟩ ?_
      refine jA 19 6 [3,4] rfl (lM (us:=(M.run N)) (rs:=(M.rows (M.run N) (M.ex N) (M.cl N) k)) (m9:=(M.rows (M.run N) (M.ex N) (M.cl N) k).length) (M:=M) (N:=N) (y:=k) hOk hIN hkN hUN (by omega)) Bo ⟨aD rfl,aD rfl,rfl⟩ ⟨rfl,rfl,rfl,rfl⟩ (ok:=[some ⟨51,14,cR (M.run N)⟩,some ⟨68,24,fH (M.rows (M.run N) (M.ex N) (M.cl N) k)⟩]) ⟨aD rfl,aD rfl,rfl⟩ ⟨rfl,rfl,rfl,trivial⟩ ?_
      refine aF 20 rfl (eZ) iU rfl (qF (.of ((0:Int):Rat))) ?_;refine aF 21 rfl (eZ) iU rfl (qF (.of ((0:Int):Rat))) ?_;refine df 22 ?_;refine dst 24 ?_
      refine aH ?_
      exact⟨(),trivial,aP h0 [0,1,2,3,4,5] _ _ (by decide) ⟨rfl,rfl,rfl,rfl,rfl,rfl,rfl,trivial⟩ ⟨aD rfl,oe rfl rfl,oe rfl rfl,aD rfl,aD rfl,aD rfl,rfl⟩⟩
     refine bE (key:=5) 23 rfl rfl aA rfl ⟨rfl,rfl,rfl,trivial⟩ ?_
     refine aF 12 rfl (oF (c:=.of M.cap) (a:=.of (M.inc k)) (b:=.of (M.ring k)) (q:=M.cap) (p:=M.inc k) (Qn.of (hOk.cap.mono (M:=330) (by omega))) (Qn.of s1) (hOk.cap.mono (by omega)) (s1.mono (by omega))) Bl ⟨aB rfl,aB rfl,rfl⟩ (qF (.of (M.lim k))) ?_
     refine jA 15 6 [3,4] rfl (mZ (us:=(M.run N)) (y:=(k:Int)) (rs:=(M.rows (M.run N) (M.ex N) (M.cl N) k)) (m9:=(M.rows (M.run N) (M.ex N) (M.cl N) k).length) hUN (by omega)) qT ⟨aD rfl,aD rfl,rfl⟩ ⟨rfl,rfl,rfl⟩ (ok:=[some ⟨51,14,cR (M.run N)⟩,some ⟨68,24,fH (M.rows (M.run N) (M.ex N) (M.cl N) k)⟩]) ⟨aD rfl,aD rfl,rfl⟩ ⟨rfl,rfl,rfl,trivial⟩ ?_
     refine jA 19 6 [3,4] rfl (lM (us:=(M.run N)) (rs:=(M.rows (M.run N) (M.ex N) (M.cl N) k)) (m9:=(M.rows (M.run N) (M.ex N) (M.cl N) k).length) (M:=M) (N:=N) (y:=k) hOk hIN hkN hUN (by omega)) Bo ⟨aD rfl,aD rfl,rfl⟩ ⟨rfl,rfl,rfl,rfl⟩ (ok:=[some ⟨51,14,cR (M.run N)⟩,some ⟨68,24,fH (M.rows (M.run N) (M.ex N) (M.cl N) k)⟩]) ⟨aD rfl,aD rfl,rfl⟩ ⟨rfl,rfl,rfl,trivial⟩ ?_
     refine aF 20 rfl (eZ) iU rfl (qF (.of ((0:Int):Rat))) ?_;refine aF 21 rfl (eZ) iU rfl (qF (.of ((0:Int):Rat))) ?_;refine df 22 ?_;refine dst 24 ?_
     refine aH ?_
     exact⟨(),trivial,aP h0 [0,1,2,3,4,5] _ _ (by decide) ⟨rfl,rfl,rfl,rfl,rfl,rfl,rfl,trivial⟩ ⟨aD rfl,oe rfl rfl,oe rfl rfl,aD rfl,aD rfl,aD rfl,rfl⟩⟩
    refine bE (key:=5) 23 rfl rfl aA rfl ⟨rfl,rfl,rfl,trivial⟩ ?_;refine aF 6 rfl (gU (Qn.of (p:=(-(M.inc (k)))) s4)) nN ⟨aB rfl,rfl⟩ (qF (.of (abv (-(M.inc (k)))))) ?_
    refine aF 12 rfl (oF (c:=.of M.cap) (a:=.of (M.inc k)) (b:=.of (M.ring k)) (q:=M.cap) (p:=M.inc k) (Qn.of (hOk.cap.mono (M:=330) (by omega))) (Qn.of s1) (hOk.cap.mono (by omega)) (s1.mono (by omega))) Bl ⟨aB rfl,aB rfl,rfl⟩ (qF (.of (M.lim k))) ?_
    refine jA 15 6 [3,4] rfl (mZ (us:=(M.run N)) (y:=(k:Int)) (rs:=(M.rows (M.run N) (M.ex N) (M.cl N) k)) (m9:=(M.rows (M.run N) (M.ex N) (M.cl N) k).length) hUN (by omega)) qT ⟨aD rfl,aD rfl,rfl⟩ ⟨rfl,rfl,rfl⟩ (ok:=[some ⟨51,14,cR (M.run N)⟩,some ⟨68,24,fH (M.rows (M.run N) (M.ex N) (M.cl N) k)⟩]) ⟨aD rfl,aD rfl,rfl⟩ ⟨rfl,rfl,rfl,trivial⟩ ?_
    refine jA 19 6 [3,4] rfl (lM (us:=(M.run N)) (rs:=(M.rows (M.run N) (M.ex N) (M.cl N) k)) (m9:=(M.rows (M.run N) (M.ex N) (M.cl N) k).length) (M:=M) (N:=N) (y:=k) hOk hIN hkN hUN (by omega)) Bo ⟨aD rfl,aD rfl,rfl⟩ ⟨rfl,rfl,rfl,rfl⟩ (ok:=[some ⟨51,14,cR (M.run N)⟩,some ⟨68,24,fH (M.rows (M.run N) (M.ex N) (M.cl N) k)⟩]) ⟨aD rfl,aD rfl,rfl⟩ ⟨rfl,rfl,rfl,trivial⟩ ?_
    refine aF 20 rfl (eZ) iU rfl (qF (.of ((0:Int):Rat))) ?_;refine aF 21 rfl (eZ) iU rfl (qF (.of ((0:Int):Rat))) ?_;refine df 22 ?_;refine dst 24 ?_;refine aH ?_
    exact⟨(),trivial,aP h0 [0,1,2,3,4,5] _ _ (by decide) ⟨rfl,rfl,rfl,rfl,rfl,rfl,rfl,trivial⟩ ⟨aD rfl,oe rfl rfl,oe rfl rfl,aD rfl,aD rfl,aD rfl,rfl⟩⟩
   refine bE (key:=5) 23 rfl rfl aA rfl ⟨rfl,rfl,rfl,trivial⟩ ?_;refine aF 5 rfl (wW (Qn.of (p:=(M.inc (k))) s1)) Km ⟨aB rfl,rfl⟩ (qF (.of (-(M.inc (k))))) ?_
   refine aF 6 rfl (gU (Qn.of (p:=(-(M.inc (k)))) s4)) nN ⟨aB rfl,rfl⟩ (qF (.of (abv (-(M.inc (k)))))) ?_
   refine aF 12 rfl (oF (c:=.of M.cap) (a:=.of (M.inc k)) (b:=.of (M.ring k)) (q:=M.cap) (p:=M.inc k) (Qn.of (hOk.cap.mono (M:=330) (by omega))) (Qn.of s1) (hOk.cap.mono (by omega)) (s1.mono (by omega))) Bl ⟨aB rfl,aB rfl,rfl⟩ (qF (.of (M.lim k))) ?_
   refine jA 15 6 [3,4] rfl (mZ (us:=(M.run N)) (y:=(k:Int)) (rs:=(M.rows (M.run N) (M.ex N) (M.cl N) k)) (m9:=(M.rows (M.run N) (M.ex N) (M.cl N) k).length) hUN (by omega)) qT ⟨aD rfl,aD rfl,rfl⟩ ⟨rfl,rfl,rfl⟩ (ok:=[some ⟨51,14,cR (M.run N)⟩,some ⟨68,24,fH (M.rows (M.run N) (M.ex N) (M.cl N) k)⟩]) ⟨aD rfl,aD rfl,rfl⟩ ⟨rfl,rfl,rfl,trivial⟩ ?_
   refine jA 19 6 [3,4] rfl (lM (us:=(M.run N)) (rs:=(M.rows (M.run N) (M.ex N) (M.cl N) k)) (m9:=(M.rows (M.run N) (M.ex N) (M.cl N) k).length) (M:=M) (N:=N) (y:=k) hOk hIN hkN hUN (by omega)) Bo ⟨aD rfl,aD rfl,rfl⟩ ⟨rfl,rfl,rfl,rfl⟩ (ok:=[some ⟨51,14,cR (M.run N)⟩,some ⟨68,24,fH (M.rows (M.run N) (M.ex N) (M.cl N) k)⟩]) ⟨aD rfl,aD rfl,rfl⟩ ⟨rfl,rfl,rfl,trivial⟩ ?_
   refine aF 20 rfl (eZ) iU rfl (qF (.of ((0:Int):Rat))) ?_;refine aF 21 rfl (eZ) iU rfl (qF (.of ((0:Int):Rat))) ?_;refine df 22 ?_;refine dst 24 ?_;refine aH ?_
   exact⟨(),trivial,aP h0 [0,1,2,3,4,5] _ _ (by decide) ⟨rfl,rfl,rfl,rfl,rfl,rfl,rfl,trivial⟩ ⟨aD rfl,oe rfl rfl,oe rfl rfl,aD rfl,aD rfl,aD rfl,rfl⟩⟩
  refine sq ?_;refine sq ?_;have hkN:k<N:=by omega
  refine rl ?_;refine o1 ?_;refine o1 ?_;refine ld ?_;refine o1 ?_;refine WL.cast (t:=99) (u':=.int .i64 ((k+M.w:Nat):Int)) rfl (aO (by omega)) ?_
  (iterate 3 refine o1 ?_);refine nl ?_;refine bQ rfl (fun h9=>?_) (fun h9=>?_)
  ·refine rl ?_;refine ld ?_;refine o1 ?_;refine o1 ?_
   refine cl 6 [3,4] (Ph (us:=(M.run N)) (rs:=(M.rows (M.run N) (M.ex N) (M.cl N) k)) (m9:=(M.rows (M.run N) (M.ex N) (M.cl N) k).length) (M:=M) (N:=N) (y:=k) hOk hIN hkN hUN (by omega)) Sl ⟨aD rfl,aD rfl,rfl⟩ ⟨rfl,rfl,rfl,rfl⟩ (ok:=[some ⟨51,14,cR (M.run N)⟩,some ⟨68,24,fH (M.rows (M.run N) (M.ex N) (M.cl N) k)⟩]) ⟨aD rfl,aD rfl,rfl⟩ ?_
   refine o1 ?_;refine st ?_;refine nl ?_;refine rl ?_;refine o1 ?_;refine ld ?_;refine ld ?_;refine bs 6 ?_;have hrl9:(M.rows (M.run N) (M.ex N) (M.cl N) k).length=k:=cM
   refine jN (j:=7) (n:=(M.rows (M.run N) (M.ex N) (M.cl N) k).length) (l:=fH (M.rows (M.run N) (M.ex N) (M.cl N) k)) aA rfl rfl rfl rfl (.sl rfl (Ez _)) (.sl rfl rfl rfl) rfl rfl rfl (by omega) (by omega) ?_
   refine o1 ?_;refine st ?_;refine nl ?_;refine rl ?_;refine o1 ?_;refine o1 ?_;refine WL.cast (t:=72) (u':=.int .i64 ((k+1:Nat):Int)) rfl (aO (by omega)) ?_
   refine o1 ?_;refine nl ?_
   have hrow:(⟨abv (-(M.inc k)),M.lim k,bI (M.run N) k,M.tax (M.run N) k,(M.left (M.run N) k),((0:Int):Rat)⟩:Rw)=M.row (M.run N) (M.ex N) (M.cl N) k:=by
    unfold Mx.row Mx.ex Mx.cl;rw[if_pos (by omega),if_pos (by omega),yT]
    rfl
   have hst:=(Bc (M.rows (M.run N) (M.ex N) (M.cl N) k) _).trans (congrArg fH ((congrArg (fun r=>(M.rows (M.run N) (M.ex N) (M.cl N) k)++[r]) hrow).trans wK))
   have hln:(M.rows (M.run N) (M.ex N) (M.cl N) k).length+1=(M.rows (M.run N) (M.ex N) (M.cl N) (k+1)).length:=by rw[cM,cM]
   exact⟨k+1,by omega,by omega,aP h0 [0,1,2,3,7] _ _ (by decide) ⟨rfl,rfl,rfl,rfl,rfl,rfl,trivial⟩ ⟨aD rfl,oe rfl rfl,oe rfl (congrArg (fun n=>some (⟨42,0,[.sl 7 0 n,.sl 3 0 (M.run N).length]⟩:Ob)) hln),aD rfl,aD (congrArg (fun l:List AV=>some (⟨68,24,l⟩:Ob)) hst),rfl⟩⟩
  refine rl ?_;refine ld ?_;refine o1 ?_;refine o1 ?_
  refine cl 6 [3,4] (Ph (us:=(M.run N)) (rs:=(M.rows (M.run N) (M.ex N) (M.cl N) k)) (m9:=(M.rows (M.run N) (M.ex N) (M.cl N) k).length) (M:=M) (N:=N) (y:=k) hOk hIN hkN hUN (by omega)) Sl ⟨aD rfl,aD rfl,rfl⟩ ⟨rfl,rfl,rfl,rfl⟩ (ok:=[some ⟨51,14,cR (M.run N)⟩,some ⟨68,24,fH (M.rows (M.run N) (M.ex N) (M.cl N) k)⟩]) ⟨aD rfl,aD rfl,rfl⟩ ?_
  refine o1 ?_;refine st ?_;refine nl ?_;refine rl ?_;refine o1 ?_;refine ld ?_;refine ld ?_;refine bs 6 ?_;have hrl9:(M.rows (M.run N) (M.ex N) (M.cl N) k).length=k:=cM
  refine jN (j:=7) (n:=(M.rows (M.run N) (M.ex N) (M.cl N) k).length) (l:=fH (M.rows (M.run N) (M.ex N) (M.cl N) k)) aA rfl rfl rfl rfl (.sl rfl (Ez _)) (.sl rfl rfl rfl) rfl rfl rfl (by omega) (by omega) ?_
  refine o1 ?_;refine st ?_;refine nl ?_;refine rl ?_;refine o1 ?_;refine o1 ?_;refine WL.cast (t:=72) (u':=.int .i64 ((k+1:Nat):Int)) rfl (aO (by omega)) ?_
  refine o1 ?_;refine nl ?_
  have hrow:(⟨abv (-(M.inc k)),M.lim k,bI (M.run N) k,M.tax (M.run N) k,((0:Int):Rat),(M.left (M.run N) k)⟩:Rw)=M.row (M.run N) (M.ex N) (M.cl N) k:=by
   unfold Mx.row Mx.ex Mx.cl;rw[if_neg (by omega),if_neg (by omega),yT]
   rfl
  have hst:=(Bc (M.rows (M.run N) (M.ex N) (M.cl N) k) _).trans (congrArg fH ((congrArg (fun r=>(M.rows (M.run N) (M.ex N) (M.cl N) k)++[r]) hrow).trans wK))
  have hln:(M.rows (M.run N) (M.ex N) (M.cl N) k).length+1=(M.rows (M.run N) (M.ex N) (M.cl N) (k+1)).length:=by rw[cM,cM]
  exact⟨k+1,by omega,by omega,aP h0 [0,1,2,3,7] _ _ (by decide) ⟨rfl,rfl,rfl,rfl,rfl,rfl,trivial⟩ ⟨aD rfl,oe rfl rfl,oe rfl (congrArg (fun n=>some (⟨42,0,[.sl 7 0 n,.sl 3 0 (M.run N).length]⟩:Ob)) hln),aD rfl,aD (congrArg (fun l:List AV=>some (⟨68,24,l⟩:Ob)) hst),rfl⟩⟩
 refine ex ?_;refine sq ?_;have hkN:k=N:=by omega
 rw[hkN];refine rl ?_;refine ld ?_;refine st ?_;refine o1 ?_;refine nl ?_;refine rt ?_
 exact gX (en (.inl rfl) rfl (wM (.cons (.agg (.cons (.sl (trs:=(M.rows (M.run N) (M.ex N) (M.cl N) N).flatMap (bV false)) rfl rfl (bB _ _ (dE false _)) (dE false _)) (.cons (.sl (trs:=(M.run N).flatMap (cF false)) rfl rfl (bB _ _ (eF false _)) (eF false _)) .nil))) (.cons (bH _) .nil))) (by decide) (fun h=>by cases h) rfl)
theorem OU {c:Fr4}{bk fw:Int}{ys:List (Fr4×Fr4)}(hs:Sm c ys):aE false Tryz.prog 14 [] [.agg ((c.tr false++[.v (.int .i64 bk),.v (.int .i64 fw)]:List Tr).map .t),.one (.t (gA ys))] (aQ (.tup [.agg [.t (mW true (cC c bk fw ys)),.t (lQ true (bZ c bk fw ys))],.one (tv (.int .i64 (cW c bk fw ys)))])):=by
 by_cases h:cW c bk fw ys=0
 ·obtain⟨h1,e1,e2,e3,e4⟩:=Dd hs h
  have h9:=Vv h1 (by rw[←e1,←e4];exact hs) (by rw[←e1,←e2,←e3,←e4];exact h)
  rw[←e1,←e2,←e3,←e4]at h9
  unfold cC bZ
  rw[if_pos h,if_pos h,h]
  exact h9
 unfold cC bZ
 rw[if_neg h,if_neg h]
 exact Zr hs h
end Go.Proofs.YthoemjjmkgmnjaaGreat
