/- Part 13 of a proof: E1 to F1. -/
import Derived.Test.YthoemjjmkgmnjaaGreatM11
import Derived.Test.YthoemjjmkgmnjaaGreatM12
import Derived.Test.YthoemjjmkgmnjaaGreatM9
import Derived.Test.YthoemjjmkgmnjaaGreatM7
set_option maxRecDepth 100000
set_option linter.unusedVariables false
set_option linter.unusedSimpArgs false
namespace Go.Proofs.YthoemjjmkgmnjaaGreat
open Go Go.RowKit
def iN (ys:List (Fr4×Fr4)):Tr:=.s false 72 8 ys.length (ys.flatMap bY)
theorem Jy:aE false Tryz.prog 47 [] [] (aO (qF (.of ((0:Int):Rat)))):=by
 refine bF Tryz.func47 rfl Tryz.ntmps47 rfl aA rfl fun N w c0 h0=>?_
 refine sq ?_;refine rl ?_;refine al 0 ?_;refine nl ?_;refine sq ?_;refine rl ?_;refine ca (Jw (n:=0) (by omega) (by omega)) KU ⟨a1 rfl,rfl⟩ (qF (.of ((0:Int):Rat))) ?_
 refine st ?_;refine nl ?_;refine rt ?_;exact en (.inl rfl) rfl (aP (.agg (.cons (.id rfl) (.cons (.id rfl) (.cons (.id rfl) (.cons (.id rfl) .nil)))))) (by decide) (fun h=>by cases h) (rfl)
theorem Eu {a:Fr4}{p:Rat}(ha:Qn a p):aE false Tryz.prog 43 [] [qF a] (aO (qF (.of (abv p)))):=by
 refine bF Tryz.func43 rfl Tryz.ntmps43 rfl aA rfl fun N w c0 h0=>?_
 refine sq ?_;refine rl ?_;refine bx 0 ?_;refine al 1 ?_;refine nl ?_;refine sq ?_;refine sq ?_;refine rl ?_;refine ld ?_
 refine ca (gS ha) nN ⟨aB rfl,rfl⟩ (.one (tv (.int .i64 p.num.sign))) ?_;refine o1 ?_;refine nl ?_;refine bS rfl (fun h1=>?_) (fun h1=>?_)
 ·refine sq ?_;refine rl ?_;refine ca (Jy) Zb rfl (qF (.of ((0:Int):Rat))) ?_;refine st ?_;refine nl ?_;refine rt ?_
  exact en (.inl rfl) rfl (aP (.agg (.cons (.id rfl) (.cons (.id rfl) (.cons (.id rfl) (.cons (.id rfl) .nil)))))) (by decide) (fun h=>by cases h) (congrArg (fun q=>qF (.of q)) ((mG p).trans (if_pos ((qC p).1 h1))).symm)
 refine sk ?_;refine sq ?_;refine rl ?_;refine ld ?_;refine ca (mU ha) Bi ⟨aB rfl,rfl⟩ (qF (.of p)) ?_;refine st ?_;refine nl ?_;refine rt ?_
 exact en (.inl rfl) rfl (aP (.agg (.cons (.id rfl) (.cons (.id rfl) (.cons (.id rfl) (.cons (.id rfl) .nil)))))) (by decide) (fun h=>by cases h) (congrArg (fun q=>qF (.of q)) ((mG p).trans (if_neg (fun h9=>h1 ((qC p).2 h9)))).symm)
theorem Ew {c a b:Fr4}{q p:Rat}{bk fw:Int}(hc:Qn c q) (ha:Qn a p) (hs:Sz 17179869184 q) (hs2:Sz 17179869184 p):aE false Tryz.prog 45 [] [.agg ((c.tr false++[.v (.int .i64 bk),.v (.int .i64 fw)]:List Tr).map .t),.agg ((bY (a,b)).map .t)] (aO (qF (.of (q*abv p)))):=by
 refine bF Tryz.func45 rfl Tryz.ntmps45 rfl aA rfl fun N w c0 h0=>?_
 have hs1:Sz 17179869184 (abv p):=eS hs2 (by omega)
 refine sq ?_;refine rl ?_;refine bx 0 ?_;refine bx 1 ?_;refine al 2 ?_;refine nl ?_;refine sq ?_;refine rd [0,1,2] (fun i=>[6].contains i) mixed ?_
 refine dv 0 ?_;refine aJ 1 ?_;refine dv 2 ?_;refine aJ 3 ?_;refine aF 4 rfl (Eu ha) Zc ⟨aB rfl,rfl⟩ (qF (.of (abv p))) ?_
 refine aF 5 rfl (KR hc (Qn.of (p:=(abv p)) hs1) hs hs1) TF ⟨aB rfl,aB rfl,rfl⟩ (qF (.of (q*(abv p)))) ?_;refine dst 6 ?_;refine aK ?_;refine rt ?_
 exact en (.inl rfl) rfl (aP (.agg (.cons (.id rfl) (.cons (.id rfl) (.cons (.id rfl) (.cons (.id rfl) .nil)))))) (by decide) (fun h=>by cases h) (rfl)
theorem CM {c:Fr4}{bk fw:Int}{ys:List (Fr4×Fr4)}(hsm:Sm c ys):aE true Tryz.prog 40 [] [.agg ((c.tr false++[.v (.int .i64 bk),.v (.int .i64 fw)]:List Tr).map .t),.one (.t (iN ys))] (aO (.one (tv (.int .i64 (dD c bk fw ys))))):=by
 refine bF Tryz.func40 rfl Tryz.ntmps40 rfl aA rfl fun N w c0 h0=>?_
 have hs1:Sz 8 ((1:Int):Rat):=(lC (z:=1) (by omega) (by omega)).mono (by omega)
 have hlz:∀y∈ys,Sz 8 (c.q*abv y.1.q):=fun y hy=>(oZ hsm.cz (eS (Gk (hsm.y y hy).1.1 (hsm.y y hy).1.2) (by omega))).mono (by omega)
 have hl50:=hsm.l
 replace hs1:Sz 17179869184 ((1:Int):Rat):=hs1.mono (by omega)
 refine sq ?_;refine rl ?_;refine bx 0 ?_;refine o1 ?_;refine nl ?_;refine sq ?_;refine sq ?_;refine rd [0] (fun i=>[].contains i) mixed ?_
 refine dv 0 ?_;refine aJ 1 ?_;refine aF 2 rfl (vK (⟨hsm.c.1,rfl⟩:Qn c c.q)) Rm ⟨aB rfl,rfl⟩ (.one (tv (.bool (bD c.s c.x c.t c.y)))) ?_
 refine WD.splitb (t:=8) rfl (fun h1=>?_) (fun h1=>?_)
 ·refine df 3 ?_;refine df 4 ?_;refine dv 5 ?_;refine aJ 6 ?_;refine aF 7 rfl (gS (⟨hsm.c.1,rfl⟩:Qn c c.q)) nN ⟨aB rfl,rfl⟩ (.one (tv (.int .i64 c.q.num.sign))) ?_;refine df 8 ?_
  refine df 9 ?_;refine df 10 ?_;refine WD.split (t:=16) rfl rfl (fun h2=>?_) (fun h2=>?_)
  ·refine aC 11 ?_;refine aC 12 ?_;refine aC 13 ?_;refine aC 14 ?_;refine aC 15 ?_;refine df 16 ?_;refine df 17 ?_;refine aC 18 ?_;refine aC 19 ?_;refine aC 20 ?_;refine df 21 ?_
   refine df 22 ?_;refine aC 23 ?_;refine aC 24 ?_;refine aC 25 ?_;refine df 26 ?_;refine df 27 ?_;refine aC 28 ?_;refine aC 29 ?_;refine aC 30 ?_;refine df 31 ?_;refine df 32 ?_
   refine aC 33 ?_;refine aC 34 ?_;refine aC 35 ?_;refine df 36 ?_;refine aK ?_;refine fY rfl ?_;refine sq ?_;refine rl ?_;refine o1 ?_;refine nl ?_;refine rt ?_
   exact en (.inl rfl) rfl (aP (bL _)) (by decide) (fun _=>trivial) (congrArg (fun z=>FV.one (tv (.int .i64 z))) (by unfold dD;rw[show fK c bk fw=true by simp only[fK,h1,decide_eq_true h2,Bool.not_true,Bool.not_false,Bool.or_true,Bool.true_or,Bool.false_or,Bool.or_false,Bool.false_eq_true,if_true,if_false,ite_true,ite_false,Bool.and_true,Bool.true_and,Bool.false_and,Bool.and_false]];rfl))
  refine dv 11 ?_;refine aJ 12 ?_;refine aF 13 rfl (Jw (n:=1) (by omega) (by omega)) KU ⟨a1 rfl,rfl⟩ (qF (.of ((1:Int):Rat))) ?_
  refine aF 14 rfl (xL (⟨hsm.c.1,rfl⟩:Qn c c.q) (Qn.of (p:=((1:Int):Rat)) hs1) (hsm.cz.mono (by omega)) hs1) Jz ⟨aB rfl,aB rfl,rfl⟩ (.one (tv (.int .i64 (c.q-((1:Int):Rat)).num.sign))) ?_
  refine df 15 ?_;refine df 16 ?_;refine df 17 ?_;refine WD.split (t:=23) rfl rfl (fun h3=>?_) (fun h3=>?_)
  ·refine aC 18 ?_;refine aC 19 ?_;refine aC 20 ?_;refine df 21 ?_;refine df 22 ?_;refine aC 23 ?_;refine aC 24 ?_;refine aC 25 ?_;refine df 26 ?_;refine df 27 ?_;refine aC 28 ?_
   refine aC 29 ?_;refine aC 30 ?_;refine df 31 ?_;refine df 32 ?_;refine aC 33 ?_;refine aC 34 ?_;refine aC 35 ?_;refine df 36 ?_;refine aK ?_;refine fY rfl ?_;refine sq ?_
   refine rl ?_;refine o1 ?_;refine nl ?_;refine rt ?_
   exact en (.inl rfl) rfl (aP (bL _)) (by decide) (fun _=>trivial) (congrArg (fun z=>FV.one (tv (.int .i64 z))) (by unfold dD;rw[show fK c bk fw=true by simp only[fK,h1,decide_eq_false h2,decide_eq_true h3,Bool.not_true,Bool.not_false,Bool.or_true,Bool.true_or,Bool.false_or,Bool.or_false,Bool.false_eq_true,if_true,if_false,ite_true,ite_false,Bool.and_true,Bool.true_and,Bool.false_and,Bool.and_false]];rfl))
  refine dv 18 ?_;refine aJ 19 ?_;refine dv 20 ?_;refine df 21 ?_;refine df 22 ?_;refine WD.split (t:=28) rfl rfl (fun h4=>?_) (fun h4=>?_)
  ·refine aC 23 ?_;refine aC 24 ?_;refine aC 25 ?_;refine df 26 ?_;refine df 27 ?_;refine aC 28 ?_;refine aC 29 ?_;refine aC 30 ?_;refine df 31 ?_;refine df 32 ?_
   refine aC 33 ?_;refine aC 34 ?_;refine aC 35 ?_;refine df 36 ?_;refine aK ?_;refine fY rfl ?_;refine sq ?_;refine rl ?_;refine o1 ?_;refine nl ?_;refine rt ?_
   exact en (.inl rfl) rfl (aP (bL _)) (by decide) (fun _=>trivial) (congrArg (fun z=>FV.one (tv (.int .i64 z))) (by unfold dD;rw[show fK c bk fw=true by simp only[fK,h1,decide_eq_false h2,decide_eq_false h3,decide_eq_true h4,Bool.not_true,Bool.not_false,Bool.or_true,Bool.true_or,Bool.false_or,Bool.or_false,Bool.false_eq_true,if_true,if_false,ite_true,ite_false,Bool.and_true,Bool.true_and,Bool.false_and,Bool.and_false]];rfl))
  refine dv 23 ?_;refine aJ 24 ?_;refine dv 25 ?_;refine df 26 ?_;refine df 27 ?_;refine WD.split (t:=33) rfl rfl (fun h5=>?_) (fun h5=>?_)
  ·refine aC 28 ?_;refine aC 29 ?_;refine aC 30 ?_;refine df 31 ?_;refine df 32 ?_;refine aC 33 ?_;refine aC 34 ?_;refine aC 35 ?_;refine df 36 ?_;refine aK ?_
   refine fY rfl ?_;refine sq ?_;refine rl ?_;refine o1 ?_;refine nl ?_;refine rt ?_
   exact en (.inl rfl) rfl (aP (bL _)) (by decide) (fun _=>trivial) (congrArg (fun z=>FV.one (tv (.int .i64 z))) (by unfold dD;rw[show fK c bk fw=true by simp only[fK,h1,decide_eq_false h2,decide_eq_false h3,decide_eq_false h4,decide_eq_true h5,Bool.not_true,Bool.not_false,Bool.or_true,Bool.true_or,Bool.false_or,Bool.or_false,Bool.false_eq_true,if_true,if_false,ite_true,ite_false,Bool.and_true,Bool.true_and,Bool.false_and,Bool.and_false]];rfl))
  refine dv 28 ?_;refine aJ 29 ?_;refine dv 30 ?_;refine df 31 ?_;refine df 32 ?_;refine WD.split (t:=38) rfl rfl (fun h6=>?_) (fun h6=>?_)
  ·refine aC 33 ?_;refine aC 34 ?_;refine aC 35 ?_;refine df 36 ?_;refine aK ?_;refine fY rfl ?_;refine sq ?_;refine rl ?_;refine o1 ?_;refine nl ?_;refine rt ?_
   exact en (.inl rfl) rfl (aP (bL _)) (by decide) (fun _=>trivial) (congrArg (fun z=>FV.one (tv (.int .i64 z))) (by unfold dD;rw[show fK c bk fw=true by simp only[fK,h1,decide_eq_false h2,decide_eq_false h3,decide_eq_false h4,decide_eq_false h5,decide_eq_true h6,Bool.not_true,Bool.not_false,Bool.or_true,Bool.true_or,Bool.false_or,Bool.or_false,Bool.false_eq_true,if_true,if_false,ite_true,ite_false,Bool.and_true,Bool.true_and,Bool.false_and,Bool.and_false]];rfl))
  refine dv 33 ?_;refine aJ 34 ?_;refine dv 35 ?_;refine df 36 ?_;refine aK ?_;refine bS rfl (fun h7=>?_) (fun h7=>?_)
  ·refine sq ?_;refine rl ?_;refine o1 ?_;refine nl ?_;refine rt ?_
   exact en (.inl rfl) rfl (aP (bL _)) (by decide) (fun _=>trivial) (congrArg (fun z=>FV.one (tv (.int .i64 z))) (by unfold dD;rw[show fK c bk fw=true by simp only[fK,h1,decide_eq_false h2,decide_eq_false h3,decide_eq_false h4,decide_eq_false h5,decide_eq_false h6,decide_eq_true h7,Bool.not_true,Bool.not_false,Bool.or_true,Bool.true_or,Bool.false_or,Bool.or_false,Bool.false_eq_true,if_true,if_false,ite_true,ite_false,Bool.and_true,Bool.true_and,Bool.false_and,Bool.and_false]];rfl))
  refine sk ?_;refine sq ?_;refine sq ?_
  have hbr:fK c bk fw=false:=by simp only[fK,h1,decide_eq_false h2,decide_eq_false h3,decide_eq_false h4,decide_eq_false h5,decide_eq_false h6,decide_eq_false h7,Bool.not_true,Bool.not_false,Bool.or_true,Bool.true_or,Bool.false_or,Bool.or_false,Bool.false_eq_true,if_true,if_false,ite_true,ite_false,Bool.and_true,Bool.true_and,Bool.false_and,Bool.and_false]
  refine rl ?_;refine o1 ?_;refine nl ?_;refine bl ?_
  refine lp (γ:=Nat) (fun k=>bV [(1,.one (.t (iN ys))),(2,.one (.pt 0 0)),(5,.one (tv (.int .i64 ((k:Nat):Int))))]) (fun _=>[(⟨58,0,(c.tr false++[.v (.int .i64 bk),.v (.int .i64 fw)]:List Tr).map .t⟩:Ob)].map some) (fun k=>k≤ys.length∧∀j,j<k→gA c (bX ys j)=false) (fun k=>ys.length-k) 0 ⟨Nat.zero_le _,fun j hj=>absurd hj (Nat.not_lt_zero j)⟩ (aG h0 [0] _ _ (by decide) ⟨rfl,rfl,rfl,trivial⟩ ⟨oe rfl rfl,rfl⟩) fun k hk=>?_
  refine sq ?_;refine sq ?_;refine rl ?_;(iterate 4 refine o1 ?_);refine nl ?_;refine bS rfl (fun h8=>?_) (fun h8=>?_)
  ·refine sk ?_;refine sq ?_;refine bl ?_;refine sq ?_;have hx:=hsm.y _ (iG (ys:=ys) (k:=k) (by omega))
   refine rd [0] (fun i=>[].contains i) mixed ?_
   refine dv 0 ?_;refine dv 1 ?_;refine dv 2 ?_;refine dv 3 ?_
   refine cO 4 ((bX ys (k)).1.tr false) (aQ (f:=bY) (z:=8) (o:=0) dA (eW (by omega)) (Nat.le_of_ble_eq_true rfl) rfl) ?_
   refine aF 5 rfl (vK (⟨hx.1.1,rfl⟩:Qn (bX ys k).1 (bX ys k).1.q)) Rm ⟨aB rfl,rfl⟩ (.one (tv (.bool (bD (bX ys (k)).1.s (bX ys (k)).1.x (bX ys (k)).1.t (bX ys (k)).1.y)))) ?_
   refine WD.splitb (t:=54) rfl (fun h9=>?_) (fun h9=>?_)
   ·refine df 6 ?_;refine df 7 ?_;refine dv 8 ?_;refine dv 9 ?_;refine dv 10 ?_;refine dv 11 ?_
    refine cO 12 ((bX ys (k)).2.tr false) (aQ (f:=bY) (z:=8) (o:=4) dA (eW (by omega)) (Nat.le_of_ble_eq_true rfl) rfl) ?_
    refine aF 13 rfl (vK (⟨hx.2.1,rfl⟩:Qn (bX ys k).2 (bX ys k).2.q)) Rm ⟨aB rfl,rfl⟩ (.one (tv (.bool (bD (bX ys (k)).2.s (bX ys (k)).2.x (bX ys (k)).2.t (bX ys (k)).2.y)))) ?_
    refine WD.splitb (t:=62) rfl (fun h10=>?_) (fun h10=>?_)
    ·refine df 14 ?_;refine df 15 ?_;refine df 16 ?_;refine dv 17 ?_;refine dv 18 ?_;refine dv 19 ?_;refine dv 20 ?_
     refine cO 21 ((bX ys (k)).2.tr false) (aQ (f:=bY) (z:=8) (o:=4) dA (eW (by omega)) (Nat.le_of_ble_eq_true rfl) rfl) ?_
     refine aF 22 rfl (gS (⟨hx.2.1,rfl⟩:Qn (bX ys k).2 (bX ys k).2.q)) nN ⟨aB rfl,rfl⟩ (.one (tv (.int .i64 (bX ys (k)).2.q.num.sign))) ?_;refine df 23 ?_
     refine df 24 ?_;refine df 25 ?_;refine WD.split (t:=74) rfl rfl (fun h11=>?_) (fun h11=>?_)
     ·refine aC 26 ?_;refine aC 27 ?_;refine aC 28 ?_;refine aC 29 ?_;refine aC 30 ?_;refine aC 31 ?_;refine aC 32 ?_;refine aC 33 ?_;refine aC 34 ?_
      refine aC 35 ?_;refine aC 36 ?_;refine aC 37 ?_;refine aC 38 ?_;refine df 39 ?_;refine aK ?_;refine fY rfl ?_;refine sq ?_;refine rl ?_;refine o1 ?_;refine nl ?_
      refine rt ?_
      have hby:gA c (bX ys k)=true:=by simp only[gA,h9,h10,decide_eq_true h11,Bool.not_true,Bool.not_false,Bool.or_true,Bool.true_or,Bool.false_or,Bool.or_false,Bool.false_eq_true,if_true,if_false,ite_true,ite_false,Bool.and_true,Bool.true_and,Bool.false_and,Bool.and_false]
      have hany:ys.any (gA c)=true:=List.any_eq_true.2 ⟨_,iG (by omega),hby⟩
      exact en (.inl rfl) rfl (aP (bL _)) (by decide) (fun _=>trivial) (congrArg (fun z=>FV.one (tv (.int .i64 z))) (by unfold dD;rw[hany,Bool.or_true,if_pos rfl]))
     refine dv 26 ?_;refine dv 27 ?_;refine dv 28 ?_;refine dv 29 ?_
     refine cO 30 ((bX ys (k)).2.tr false) (aQ (f:=bY) (z:=8) (o:=4) dA (eW (by omega)) (Nat.le_of_ble_eq_true rfl) rfl) ?_
     refine aJ 31 ?_;refine dv 32 ?_;refine dv 33 ?_;refine dv 34 ?_
     refine cO 35 (bY (bX ys (k))) (aQ (f:=bY) (z:=8) (o:=0) dA (eW (by omega)) (Nat.le_of_ble_eq_true rfl) rfl) ?_
     refine aF 36 rfl (Ew (b:=(bX ys k).2) (⟨hsm.c.1,rfl⟩:Qn c c.q) (⟨hx.1.1,rfl⟩:Qn (bX ys k).1 (bX ys k).1.q) (hsm.cz.mono (by omega)) ((Gk hx.1.1 hx.1.2).mono (by omega))) Zd ⟨aB rfl,aB rfl,rfl⟩ (qF (.of (c.q*abv (bX ys k).1.q))) ?_
     refine aF 37 rfl (xL (⟨hx.2.1,rfl⟩:Qn (bX ys k).2 (bX ys k).2.q) (Qn.of (p:=(c.q*abv (bX ys k).1.q)) (hlz _ (iG (by omega)))) ((Gk hx.2.1 hx.2.2).mono (by omega)) ((hlz _ (iG (by omega))).mono (by omega))) Jz ⟨aB rfl,aB rfl,rfl⟩ (.one (tv (.int .i64 ((bX ys (k)).2.q-(c.q*abv (bX ys k).1.q)).num.sign))) ?_
     refine df 38 ?_;refine df 39 ?_;refine aK ?_;refine bS rfl (fun h12=>?_) (fun h12=>?_)
     ·refine sq ?_;refine rl ?_;refine o1 ?_;refine nl ?_;refine rt ?_
      have hby:gA c (bX ys k)=true:=by simp only[gA,h9,h10,decide_eq_false h11,decide_eq_true h12,Bool.not_true,Bool.not_false,Bool.or_true,Bool.true_or,Bool.false_or,Bool.or_false,Bool.false_eq_true,if_true,if_false,ite_true,ite_false,Bool.and_true,Bool.true_and,Bool.false_and,Bool.and_false]
      have hany:ys.any (gA c)=true:=List.any_eq_true.2 ⟨_,iG (by omega),hby⟩
      exact en (.inl rfl) rfl (aP (bL _)) (by decide) (fun _=>trivial) (congrArg (fun z=>FV.one (tv (.int .i64 z))) (by unfold dD;rw[hany,Bool.or_true,if_pos rfl]))
     refine sk ?_;refine rl ?_;refine o1 ?_;refine o1 ?_;refine WL.cast (t:=48) (u':=.int .i64 ((k+1:Nat):Int)) rfl (aI (by omega)) ?_
     refine o1 ?_;refine nl ?_
     exact⟨k+1,by omega,⟨by omega,fun j hj=>by rcases Nat.lt_succ_iff_lt_or_eq.1 hj with h9 | h9;exact hk.2 j h9;subst h9;simp only[gA,h9,h10,decide_eq_false h11,decide_eq_false h12,Bool.not_true,Bool.not_false,Bool.or_true,Bool.true_or,Bool.false_or,Bool.or_false,Bool.false_eq_true,if_true,if_false,ite_true,ite_false,Bool.and_true,Bool.true_and,Bool.false_and,Bool.and_false]⟩,aG h0 [0] _ _ (by decide) ⟨rfl,rfl,rfl,trivial⟩ ⟨oe rfl rfl,rfl⟩⟩
    refine df 14 ?_;refine df 15 ?_;refine df 16 ?_;refine aC 17 ?_;refine aC 18 ?_;refine aC 19 ?_;refine aC 20 ?_;refine aC 21 ?_;refine aC 22 ?_;refine aC 23 ?_
    refine df 24 ?_;refine df 25 ?_;refine aC 26 ?_;refine aC 27 ?_;refine aC 28 ?_;refine aC 29 ?_;refine aC 30 ?_;refine aC 31 ?_;refine aC 32 ?_;refine aC 33 ?_
    refine aC 34 ?_;refine aC 35 ?_;refine aC 36 ?_;refine aC 37 ?_;refine aC 38 ?_;refine df 39 ?_;refine aK ?_;refine fY rfl ?_;refine sq ?_;refine rl ?_
    refine o1 ?_;refine nl ?_;refine rt ?_
    have hby:gA c (bX ys k)=true:=by simp only[gA,h9,h10,Bool.not_true,Bool.not_false,Bool.or_true,Bool.true_or,Bool.false_or,Bool.or_false,Bool.false_eq_true,if_true,if_false,ite_true,ite_false,Bool.and_true,Bool.true_and,Bool.false_and,Bool.and_false]
    have hany:ys.any (gA c)=true:=List.any_eq_true.2 ⟨_,iG (by omega),hby⟩
    exact en (.inl rfl) rfl (aP (bL _)) (by decide) (fun _=>trivial) (congrArg (fun z=>FV.one (tv (.int .i64 z))) (by unfold dD;rw[hany,Bool.or_true,if_pos rfl]))
   refine df 6 ?_;refine df 7 ?_;refine aC 8 ?_;refine aC 9 ?_;refine aC 10 ?_;refine aC 11 ?_;refine aC 12 ?_;refine aC 13 ?_;refine aC 14 ?_;refine df 15 ?_
   refine df 16 ?_;refine aC 17 ?_;refine aC 18 ?_;refine aC 19 ?_;refine aC 20 ?_;refine aC 21 ?_;refine aC 22 ?_;refine aC 23 ?_;refine df 24 ?_;refine df 25 ?_
   refine aC 26 ?_;refine aC 27 ?_;refine aC 28 ?_;refine aC 29 ?_;refine aC 30 ?_;refine aC 31 ?_;refine aC 32 ?_;refine aC 33 ?_;refine aC 34 ?_;refine aC 35 ?_
   refine aC 36 ?_;refine aC 37 ?_;refine aC 38 ?_;refine df 39 ?_;refine aK ?_;refine fY rfl ?_;refine sq ?_;refine rl ?_;refine o1 ?_;refine nl ?_;refine rt ?_
   have hby:gA c (bX ys k)=true:=by simp only[gA,h9,Bool.not_true,Bool.not_false,Bool.or_true,Bool.true_or,Bool.false_or,Bool.or_false,Bool.false_eq_true,if_true,if_false,ite_true,ite_false,Bool.and_true,Bool.true_and,Bool.false_and,Bool.and_false]
   have hany:ys.any (gA c)=true:=List.any_eq_true.2 ⟨_,iG (by omega),hby⟩
   exact en (.inl rfl) rfl (aP (bL _)) (by decide) (fun _=>trivial) (congrArg (fun z=>FV.one (tv (.int .i64 z))) (by unfold dD;rw[hany,Bool.or_true,if_pos rfl]))
  refine ex ?_;refine sq ?_;refine sq ?_;refine rl ?_;(iterate 3 refine o1 ?_);refine nl ?_;refine bS rfl (fun h13=>?_) (fun h13=>?_)
  ·refine sq ?_;refine rl ?_;refine o1 ?_;refine nl ?_;refine rt ?_;have hany:ys.any (gA c)=false:=by
    rw[List.any_eq_false];intro y hy;obtain⟨j,hj⟩:=List.mem_iff_getElem?.1 hy
    have hjl:=(List.getElem?_eq_some_iff.1 hj).1
    rw[eW hjl]at hj;injection hj with hj;rw[←hj,hk.2 j (by omega)]
    simp
   exact en (.inl rfl) rfl (aP (bL _)) (by decide) (fun _=>trivial) (congrArg (fun z=>FV.one (tv (.int .i64 z))) (by unfold dD;rw[hbr,hany,decide_eq_true h13];rfl))
  refine sk ?_;refine sq ?_;refine rl ?_;refine o1 ?_;refine nl ?_;refine rt ?_;have hany:ys.any (gA c)=false:=by
   rw[List.any_eq_false];intro y hy;obtain⟨j,hj⟩:=List.mem_iff_getElem?.1 hy
   have hjl:=(List.getElem?_eq_some_iff.1 hj).1
   rw[eW hjl]at hj;injection hj with hj;rw[←hj,hk.2 j (by omega)]
   simp
  exact en (.inl rfl) rfl (aP (bL _)) (by decide) (fun _=>trivial) (congrArg (fun z=>FV.one (tv (.int .i64 z))) (by unfold dD;rw[hbr,hany,decide_eq_false h13];rfl))
 refine df 3 ?_;refine df 4 ?_;refine aC 5 ?_;refine aC 6 ?_;refine aC 7 ?_;refine aC 8 ?_;refine df 9 ?_;refine df 10 ?_;refine aC 11 ?_;refine aC 12 ?_;refine aC 13 ?_
 refine aC 14 ?_;refine aC 15 ?_;refine df 16 ?_;refine df 17 ?_;refine aC 18 ?_;refine aC 19 ?_;refine aC 20 ?_;refine df 21 ?_;refine df 22 ?_;refine aC 23 ?_;refine aC 24 ?_
 refine aC 25 ?_;refine df 26 ?_;refine df 27 ?_;refine aC 28 ?_;refine aC 29 ?_;refine aC 30 ?_;refine df 31 ?_;refine df 32 ?_;refine aC 33 ?_;refine aC 34 ?_;refine aC 35 ?_
 refine df 36 ?_;refine aK ?_;refine fY rfl ?_;refine sq ?_;refine rl ?_;refine o1 ?_;refine nl ?_;refine rt ?_
 exact en (.inl rfl) rfl (aP (bL _)) (by decide) (fun _=>trivial) (congrArg (fun z=>FV.one (tv (.int .i64 z))) (by unfold dD;rw[show fK c bk fw=true by simp only[fK,h1,Bool.not_true,Bool.not_false,Bool.or_true,Bool.true_or,Bool.false_or,Bool.or_false,Bool.false_eq_true,if_true,if_false,ite_true,ite_false,Bool.and_true,Bool.true_and,Bool.false_and,Bool.and_false]];rfl))
def jC (M:Mx) (N:Nat) (rs:List Rf) (us:List Uf):List Tr:=[fV rs,jL us,.v (.bool (Fr4.of M.cap).s),sU false (Fr4.of M.cap).x,.v (.bool (Fr4.of M.cap).t),sU false (Fr4.of M.cap).y,.v (.int .i64 ((M.b:Nat):Int)),.v (.int .i64 ((M.w:Nat):Int)),fQ (yrs M N)]
theorem qE {L:Nat}{q:Rat}(h:Sz L q):Sz L (-q):=by
 unfold Sz at*
 rwa[Rat.neg_num,Rat.neg_den,Int.natAbs_neg]
theorem dE {L K:Nat}{p q:Rat}(h:Sz L p) (h':Sz K q):Sz (L+K+1) (p+q):=iH h h'
theorem Ex {L K:Nat}{p q:Rat}(h:Sz L p) (h':Sz K q):Sz (L+K+1) (p-q):=by
 rw[Rat.sub_eq_add_neg]
 exact iH h (qE h')
theorem jT {N k:Nat}{f:Nat→Bool}(hk:k<N) (h:f k=false):(List.range N).all f=false:=by
 rw[List.all_eq_false]
 exact⟨k,List.mem_range.2 hk,by rw[h];decide⟩
theorem lJ {N k:Nat}{f:Nat→Bool}(hk:N≤k) (h:∀j,j<k→f j=true):(List.range N).all f=true:=by
 rw[List.all_eq_true]
 exact fun x hx=>h x (by rw[List.mem_range]at hx;omega)
theorem Ze {N k:Nat}{f:Nat→Bool}(hk:k<N) (h:f k=true):(List.range N).any f=true:=List.any_eq_true.2 ⟨k,List.mem_range.2 hk,h⟩
theorem FM {N k:Nat}{f:Nat→Bool}(hk:N≤k) (h:∀j,j<k→f j=false):(List.range N).any f=false:=by
 rw[List.any_eq_false]
 exact fun x hx=>by rw[h x (by rw[List.mem_range]at hx;omega)];decide
theorem jQ {f:Nat→Bool}{k:Nat}{b:Bool}(h:∀j,j<k→f j=b) (h2:f k=b):∀j,j<k+1→f j=b:=fun j hj=>by
 rcases Nat.lt_succ_iff_lt_or_eq.1 hj with h9 | h9
 ·exact h j h9
 rw[h9];exact h2
theorem TG (z:Int):decide (0<z)= !decide (z≤0):=by
 rw[←decide_not,decide_eq_decide];omega
theorem Ka {b:Bool}(h:(!b)=false):b=true:=by cases b <;> simp_all
theorem Vf {b:Bool}(h:(!b)=true):b=false:=by cases b <;> simp_all
theorem f0 {f:Nat→Bool}{b:Bool}:∀j,j<0→f j=b:=fun j hj=>absurd hj (Nat.not_lt_zero j)
theorem PR (a b c:Rat):gU [a,b,c]=a+b+c:=by simp[gU,Rat.zero_add]
theorem Zf {α:Type}(l:List α) (p:α→Bool):(!(l.any p))=l.all fun x=> !p x:=by
 induction l with
 | nil=>rfl
 | cons x l ih=>simp only[List.any_cons,List.all_cons,Bool.not_or,ih]
theorem FN {xs:List Uf}{dl:Uf→Bool}{fd:FuncId}{fst caps:List Tr}(hok:CallOk Tryz.prog fd) (hd:∀x∈xs,aE true Tryz.prog fd [] (cM fst++[.agg ((fA false x).map .t)]++cM caps) (aO (.one (tv (.bool (dl x)))))) (hl:xs.length≤1073741823):aE true Tryz.prog 144 [] [.one (.t (jL xs)),.one (.t (.f fd fst caps))] (aO (.one (tv (.int .i64 (Ak dl xs))))):=by
 refine bF Tryz.func144 rfl Tryz.ntmps144 rfl aA rfl fun N w c0 h0=>?_
 refine sq ?_;refine rl ?_;refine o1 ?_;refine nl ?_;refine sq ?_;refine sq ?_;refine rl ?_;(iterate 3 refine o1 ?_);refine nl ?_;refine bl ?_
 refine lp (γ:=Nat) (fun k=>bV [(0,.one (.t (jL xs))),(1,.one (.t (.f fd fst caps))),(7,.one (tv (.int .i64 ((xs.length:Nat):Int)))),(8,.one (tv (.int .i64 ((k:Nat):Int))))]) (fun k=>[].map some) (fun k=>k≤xs.length∧k≤sC dl xs) (fun k=>xs.length-k) 0 (⟨Nat.zero_le _,Nat.zero_le _⟩) (aG h0 [] _ _ (by decide) ⟨rfl,rfl,rfl,rfl,trivial⟩ rfl) fun k hk=>?_
 refine sq ?_;refine rl ?_;refine o1 ?_;refine nl ?_;refine sq ?_;refine bS rfl (fun h1=>?_) (fun h1=>?_)
 ·refine sk ?_;refine sq ?_;refine bl ?_;refine sq ?_;refine rl ?_;refine o1 ?_;refine o1 ?_;refine nl ?_;refine sq ?_;refine rl ?_;(iterate 4 refine o1 ?_)
  refine cR ((fA false) (bK xs (k))) (aQ (f:=(fA false)) (z:=14) (o:=0) (eM false) (dG (us:=xs) (k:=k) (by omega)) (Nat.le_of_ble_eq_true rfl) rfl) ?_
  refine ce 0 [.agg ((fA false (bK xs (k))).map .t)] rfl (hd (bK xs (k)) (dW (by omega))) hok ⟨rfl,rfl⟩ ?_
  refine nl ?_;refine kJ rfl (fun h2=>?_) (fun h2=>?_)
  ·refine sq ?_;refine rl ?_;refine o1 ?_;refine o1 ?_;refine nl ?_;refine rt ?_;have hx9:=(rA hk.2 (by omega)).1 h2
   exact en (.inl rfl) rfl (aP (bL _)) (by decide) (fun _=>trivial) (congrArg (fun z=>FV.one (tv (.int .i64 z))) (by unfold Ak;rw[hx9,if_neg (by omega)]))
  refine sk ?_;refine rl ?_;refine o1 ?_;refine WL.cast (t:=18) (u':=.int .i64 ((k+1:Nat):Int)) rfl (aI (by omega)) ?_
  refine o1 ?_;refine nl ?_;exact⟨k+1,by omega,⟨by omega,(rA hk.2 (by omega)).2 h2⟩,aG h0 [] _ _ (by decide) ⟨rfl,rfl,rfl,rfl,trivial⟩ rfl⟩
 refine ex ?_;refine sq ?_;refine rl ?_;refine o1 ?_;refine nl ?_;refine rt ?_;have hx9:=Da (dl:=dl) xs
 exact en (.inl rfl) rfl (aP (bL _)) (by decide) (fun _=>trivial) (congrArg (fun z=>FV.one (tv (.int .i64 z))) (by unfold Ak;rw[if_pos (by omega)]))
theorem Oi {xs:List Uf}{dl:Uf→Bool}{fd:FuncId}{fst caps:List Tr}(hok:CallOk Tryz.prog fd) (hd:∀x∈xs,aE true Tryz.prog fd [] (cM fst++[.agg ((fA false x).map .t)]++cM caps) (aO (.one (tv (.bool (dl x)))))) (hl:xs.length≤1073741823):aE true Tryz.prog 98 [] [.one (.t (jL xs)),.one (.t (.f fd fst caps))] (aO (.one (tv (.bool (xs.any dl))))):=by
 refine bF Tryz.func98 rfl Tryz.ntmps98 rfl aA rfl fun N w c0 h0=>?_
 refine sq ?_;refine rl ?_;refine o1 ?_;refine nl ?_;refine sq ?_;refine rl ?_;refine o1 ?_;refine o1 ?_
 refine ca (FN hok hd hl) PS ⟨a1 rfl,a1 rfl,rfl⟩ (.one (tv (.int .i64 (Ak dl xs)))) ?_;refine o1 ?_;refine o1 ?_;refine nl ?_;refine rt ?_
 exact en (.inl rfl) rfl (aP (bL _)) (by decide) (fun _=>trivial) (congrArg (fun z=>FV.one (tv (.bool z))) (Oj xs))
theorem Rn {M:Mx}{N:Nat}{rs:List Rf}{us:List Uf}(hOk:M.Ok N) (hJ:JOk rs us){v y:Int}:aE true Tryz.prog 100 [] [.one (.t (.p false 112 (jC M N rs us))),.one (tv (.int .i64 v)),.one (tv (.int .i64 y))] (aO (.one (tv (.bool (M.win N v y))))):=by
 refine bF Tryz.func100 rfl Tryz.ntmps100 rfl aA rfl fun N9 w9 c0 h0=>?_
 have h9l:=cU M N;have h9r:=hJ.rl;have h9u:=hJ.ul;have h9n:=hOk.n;have h9b:=hOk.b;have h9w:=hOk.w
 refine sq ?_;refine rl ?_;refine o1 ?_;refine nl ?_;refine sq ?_;refine rl ?_;(iterate 3 refine o1 ?_);refine cR ([fQ (yrs M N)]) rfl ?_;refine o1 ?_
 refine WL.cast (t:=12) (u':=.int .i64 ((N:Nat):Int)) rfl (aI (by rw[cU])) ?_
 refine o1 ?_;refine nl ?_;refine sq ?_;refine rl ?_;(iterate 3 refine o1 ?_);refine WL.split (t:=15) rfl (fun h1=>?_) (fun h1=>?_)
 ·(iterate 5 refine o1 ?_);refine WL.split (t:=20) rfl (fun h2=>?_) (fun h2=>?_)
  ·(iterate 4 refine o1 ?_);refine WL.split (t:=24) rfl (fun h3=>?_) (fun h3=>?_)
   ·(iterate 5 refine o1 ?_);refine WL.split (t:=29) rfl (fun h4=>?_) (fun h4=>?_)
    ·(iterate 3 refine o1 ?_);refine cR ([fQ (yrs M N)]) rfl ?_;refine o1 ?_;refine WL.cast (t:=34) (u':=.int .i64 ((v.toNat:Nat):Int)) rfl (aI (by omega)) ?_
     refine o1 ?_;refine o1 ?_
     refine cR ((Fr4.of (M.inc (v.toNat))).tr false) (aQ (f:=bY) (z:=8) (o:=0) dA (eL (M:=M) (N:=N) (y:=v.toNat) (by omega)) (Nat.le_of_ble_eq_true rfl) rfl) ?_
     refine ca (fR (Qn.of (p:=(M.inc (v.toNat))) (hOk.sz_inc (y:=v.toNat) (by omega)))) kA ⟨aB rfl,rfl⟩ (.one (tv (.int .i64 (M.inc (v.toNat)).num.sign))) ?_
     (iterate 3 refine o1 ?_);refine WL.split (t:=41) rfl (fun h5=>?_) (fun h5=>?_)
     ·(iterate 3 refine o1 ?_);refine cR ([fQ (yrs M N)]) rfl ?_;refine o1 ?_;refine WL.cast (t:=46) (u':=.int .i64 ((y.toNat:Nat):Int)) rfl (aI (by omega)) ?_
      refine o1 ?_;refine o1 ?_
      refine cR ((Fr4.of (M.inc (y.toNat))).tr false) (aQ (f:=bY) (z:=8) (o:=0) dA (eL (M:=M) (N:=N) (y:=y.toNat) (by omega)) (Nat.le_of_ble_eq_true rfl) rfl) ?_
      refine ca (fR (Qn.of (p:=(M.inc (y.toNat))) (hOk.sz_inc (y:=y.toNat) (by omega)))) kA ⟨aB rfl,rfl⟩ (.one (tv (.int .i64 (M.inc (y.toNat)).num.sign))) ?_
      (iterate 3 refine o1 ?_);refine WL.split (t:=53) rfl (fun h6=>?_) (fun h6=>?_)
      ·(iterate 6 refine o1 ?_);refine cR ([.v (.int .i64 ((M.b:Nat):Int))]) rfl ?_;(iterate 4 refine o1 ?_);refine WL.split (t:=64) rfl (fun h7=>?_) (fun h7=>?_)
       ·(iterate 6 refine o1 ?_);refine cR ([.v (.int .i64 ((M.w:Nat):Int))]) rfl ?_;(iterate 4 refine o1 ?_);refine nl ?_;refine rt ?_
        exact dY (.inl rfl) rfl (by simp only[Mx.win,decide_eq_true h1,decide_eq_true h2,decide_eq_true h3,decide_eq_true h4,decide_eq_true h5,decide_eq_true h6,decide_eq_true h7] <;> first | rfl | simp)
       (iterate 9 refine aX ?_);refine o1 ?_;refine o1 ?_;refine nl ?_;refine rt ?_
       exact dY (.inl rfl) rfl (by simp only[Mx.win,decide_eq_true h1,decide_eq_true h2,decide_eq_true h3,decide_eq_true h4,decide_eq_true h5,decide_eq_true h6,decide_eq_false h7] <;> first | rfl | simp)
      (iterate 9 refine aX ?_);refine o1 ?_;refine o1 ?_;(iterate 9 refine aX ?_);refine o1 ?_;refine o1 ?_;refine nl ?_;refine rt ?_
      exact dY (.inl rfl) rfl (by simp only[Mx.win,decide_eq_true h1,decide_eq_true h2,decide_eq_true h3,decide_eq_true h4,decide_eq_true h5,decide_eq_false h6] <;> first | rfl | simp)
     (iterate 10 refine aX ?_);refine o1 ?_;refine o1 ?_;(iterate 9 refine aX ?_);refine o1 ?_;refine o1 ?_;(iterate 9 refine aX ?_);refine o1 ?_;refine o1 ?_;refine nl ?_
     refine rt ?_;exact dY (.inl rfl) rfl (by simp only[Mx.win,decide_eq_true h1,decide_eq_true h2,decide_eq_true h3,decide_eq_true h4,decide_eq_false h5] <;> first | rfl | simp)
    (iterate 10 refine aX ?_);refine o1 ?_;refine o1 ?_;(iterate 10 refine aX ?_);refine o1 ?_;refine o1 ?_;(iterate 9 refine aX ?_);refine o1 ?_;refine o1 ?_
    (iterate 9 refine aX ?_);refine o1 ?_;refine o1 ?_;refine nl ?_;refine rt ?_
    exact dY (.inl rfl) rfl (by simp only[Mx.win,decide_eq_true h1,decide_eq_true h2,decide_eq_true h3,decide_eq_false h4] <;> first | rfl | simp)
   (iterate 3 refine aX ?_);refine o1 ?_;refine o1 ?_;(iterate 10 refine aX ?_);refine o1 ?_;refine o1 ?_;(iterate 10 refine aX ?_);refine o1 ?_;refine o1 ?_;(iterate 9 refine aX ?_)
   refine o1 ?_;refine o1 ?_;(iterate 9 refine aX ?_);refine o1 ?_;refine o1 ?_;refine nl ?_;refine rt ?_
   exact dY (.inl rfl) rfl (by simp only[Mx.win,decide_eq_true h1,decide_eq_true h2,decide_eq_false h3] <;> first | rfl | simp)
  refine aX ?_;refine aX ?_;refine o1 ?_;refine o1 ?_;(iterate 3 refine aX ?_);refine o1 ?_;refine o1 ?_;(iterate 10 refine aX ?_);refine o1 ?_;refine o1 ?_;(iterate 10 refine aX ?_)
  refine o1 ?_;refine o1 ?_;(iterate 9 refine aX ?_);refine o1 ?_;refine o1 ?_;(iterate 9 refine aX ?_);refine o1 ?_;refine o1 ?_;refine nl ?_;refine rt ?_
  exact dY (.inl rfl) rfl (by simp only[Mx.win,decide_eq_true h1,decide_eq_false h2] <;> first | rfl | simp)
 (iterate 3 refine aX ?_);refine o1 ?_;refine o1 ?_;refine aX ?_;refine aX ?_;refine o1 ?_;refine o1 ?_;(iterate 3 refine aX ?_);refine o1 ?_;refine o1 ?_;(iterate 10 refine aX ?_)
 refine o1 ?_;refine o1 ?_;(iterate 10 refine aX ?_);refine o1 ?_;refine o1 ?_;(iterate 9 refine aX ?_);refine o1 ?_;refine o1 ?_;(iterate 9 refine aX ?_);refine o1 ?_;refine o1 ?_
 refine nl ?_;refine rt ?_;exact dY (.inl rfl) rfl (by simp only[Mx.win,decide_eq_false h1] <;> first | rfl | simp)
theorem FO {M:Mx}{N:Nat}{rs:List Rf}{us:List Uf}(hOk:M.Ok N) (hJ:JOk rs us){u:Uf}(hu:BF u.n∧BF u.p∧BF u.q):aE true Tryz.prog 99 [] [.agg ((fA false u).map .t),.one (.t (.p false 110 [.p false 112 (jC M N rs us)]))] (aO (.one (tv (.bool (!M.useJ N u))))):=by
 refine bF Tryz.func99 rfl Tryz.ntmps99 rfl aA rfl fun N9 w9 c0 h0=>?_
 have h9l:=cU M N;have h9r:=hJ.rl;have h9u:=hJ.ul;have h9n:=hOk.n;have h9b:=hOk.b;have h9w:=hOk.w
 refine WP.sub (oX (i:=1) rfl rfl) ?_;refine sq ?_;refine rl ?_;refine bx 0 ?_;refine o1 ?_;refine nl ?_;refine sq ?_;refine rl ?_;refine cR ([.p false 112 (jC M N rs us)]) rfl ?_
 refine o1 ?_;refine ld ?_;refine o1 ?_;refine ld ?_;refine ca (Rn hOk hJ (v:=u.v) (y:=u.y)) Ro ⟨a1 rfl,a1 rfl,a1 rfl,rfl⟩ (.one (tv (.bool (M.win N u.v u.y)))) ?_
 refine WL.splitb (t:=9) rfl (fun h1=>?_) (fun h1=>?_)
 ·(iterate 3 refine o1 ?_);refine ld ?_;refine ca (fR hu.1.qn) kA ⟨aB rfl,rfl⟩ (.one (tv (.int .i64 u.n.q.num.sign))) ?_;(iterate 3 refine o1 ?_)
  refine WL.split (t:=17) rfl (fun h2=>?_) (fun h2=>?_)
  ·(iterate 4 refine aX ?_);refine o1 ?_;refine o1 ?_;(iterate 4 refine aX ?_);refine o1 ?_;refine o1 ?_;refine nl ?_;refine rt ?_
   exact dY (.inl rfl) rfl (by simp only[Mx.useJ,h1,decide_eq_true h2] <;> first | rfl | simp)
  refine o1 ?_;refine ld ?_;refine ca (fR hu.2.1.qn) kA ⟨aB rfl,rfl⟩ (.one (tv (.int .i64 u.p.q.num.sign))) ?_;(iterate 3 refine o1 ?_)
  refine WL.split (t:=23) rfl (fun h3=>?_) (fun h3=>?_)
  ·(iterate 4 refine aX ?_);refine o1 ?_;refine o1 ?_;refine nl ?_;refine rt ?_
   exact dY (.inl rfl) rfl (by simp only[Mx.useJ,h1,decide_eq_false h2,decide_eq_true h3] <;> first | rfl | simp)
  refine o1 ?_;refine ld ?_;refine ca (fR hu.2.2.qn) kA ⟨aB rfl,rfl⟩ (.one (tv (.int .i64 u.q.q.num.sign))) ?_;(iterate 3 refine o1 ?_);refine nl ?_;refine rt ?_
  exact dY (.inl rfl) rfl (by simp only[Mx.useJ,h1,decide_eq_false h2,decide_eq_false h3] <;> first | rfl | simp)
 refine o1 ?_;refine o1 ?_;(iterate 4 refine aX ?_);refine o1 ?_;refine o1 ?_;(iterate 4 refine aX ?_);refine o1 ?_;refine o1 ?_;(iterate 4 refine aX ?_);refine o1 ?_;refine o1 ?_
 refine nl ?_;refine rt ?_;exact dY (.inl rfl) rfl (by simp only[Mx.useJ,h1] <;> first | rfl | simp)
theorem KV {M:Mx}{N:Nat}{rs:List Rf}{us:List Uf}(hOk:M.Ok N) (hJ:JOk rs us):aE true Tryz.prog 55 [] [.one (.t (.p false 112 (jC M N rs us)))] (aO (.one (tv (.bool (us.all (M.useJ N)))))):=by
 refine bF Tryz.func55 rfl Tryz.ntmps55 rfl aA rfl fun N9 w9 c0 h0=>?_
 have h9l:=cU M N;have h9r:=hJ.rl;have h9u:=hJ.ul;have h9n:=hOk.n;have h9b:=hOk.b;have h9w:=hOk.w
 refine sq ?_;refine rl ?_;refine bx 0 ?_;refine o1 ?_;refine nl ?_;refine sq ?_;refine rl ?_;refine ld ?_;(iterate 3 refine o1 ?_);refine cR ([jL us]) rfl ?_
 refine WL.sub (wI (i:=1) (k:=0) (t:=110) (l:=[.p false 112 (jC M N rs us)]) rfl rfl rfl (.one .sl)) ?_;refine o1 ?_
 refine ca (Oi (fst:=[]) (caps:=[.p false 110 [.p false 112 (jC M N rs us)]]) TH (fun u hu=>FO hOk hJ (hJ.u u hu)) (by have:=hJ.ul;omega)) KW ⟨a1 rfl,a1 rfl,rfl⟩ (.one (tv (.bool (us.any fun u=> !M.useJ N u)))) ?_
 refine o1 ?_;refine o1 ?_;refine nl ?_;refine rt ?_;exact dY (.inl rfl) rfl (List.all_eq_not_any_not.symm)
theorem KX {M:Mx}{N:Nat}{rs:List Rf}{us:List Uf}(hOk:M.Ok N) (hJ:JOk rs us):aE true Tryz.prog 54 [] [.one (.t (.p false 112 (jC M N rs us)))] (aO (.one (tv (.bool (decide (rs.length=N)&&(List.range N).all (M.rowJ rs)))))):=by
 refine bF Tryz.func54 rfl Tryz.ntmps54 rfl aA rfl fun N9 w9 c0 h0=>?_
 have h9l:=cU M N;have h9r:=hJ.rl;have h9u:=hJ.ul;have h9n:=hOk.n;have h9b:=hOk.b;have h9w:=hOk.w
 refine sq ?_;refine rl ?_;refine o1 ?_;refine nl ?_;refine sq ?_;refine sq ?_;refine rd [] (fun i=>[].contains i) mixed ?_
 refine dv 0 ?_;refine dv 1 ?_;refine dv 2 ?_;refine dv 3 ?_;refine cO 4 ([fV rs]) rfl ?_;refine dv 5 ?_;refine dv 6 ?_;refine dv 7 ?_;refine dv 8 ?_;refine cO 9 ([fQ (yrs M N)]) rfl ?_
 refine dv 10 ?_;refine WD.cast (t:=15) (u':=.int .i64 ((N:Nat):Int)) rfl (aI (by rw[cU])) ?_
 refine dv 11 ?_;refine aK ?_;refine bS rfl (fun h1=>?_) (fun h1=>?_)
 ·refine sq ?_;refine rl ?_;refine o1 ?_;refine nl ?_;refine rt ?_;exact dY (.inl rfl) rfl (by rw[decide_eq_false (show¬rs.length=N by omega)];rfl)
 refine sk ?_;refine sq ?_;refine sq ?_;refine rl ?_;(iterate 4 refine o1 ?_);refine cR ([fV rs]) rfl ?_;refine o1 ?_;refine o1 ?_;refine nl ?_;refine bl ?_
 refine lp (γ:=Nat) (fun k=>bV [(0,.one (.t (.p false 112 (jC M N rs us)))),(21,.one (.t (fV rs))),(22,.one (tv (.int .i64 ((rs.length:Nat):Int)))),(23,.one (tv (.int .i64 ((k:Nat):Int))))]) (fun k=>([]:List Ob).map some) (fun k=>k≤rs.length∧∀j,j<k→M.rowJ rs j=true) (fun k=>rs.length-k) 0 ⟨Nat.zero_le _,f0⟩ (aG h0 [] _ _ (by decide) ⟨rfl,rfl,rfl,rfl,trivial⟩ rfl) fun k hk=>?_
 refine sq ?_;refine rl ?_;refine o1 ?_;refine nl ?_;refine sq ?_;refine bS rfl (fun h2=>?_) (fun h2=>?_)
 ·refine sk ?_;refine sq ?_;refine bl ?_;refine sq ?_;refine rl ?_;refine o1 ?_;refine o1 ?_
  refine cR ((iC false) (aN rs (k))) (aQ (f:=(iC false)) (z:=24) (o:=0) (iX false) (fS (rs:=rs) (k:=k) (by omega)) (Nat.le_of_ble_eq_true rfl) rfl) ?_
  refine al 0 ?_;refine o1 ?_;refine st ?_;refine nl ?_
  refine md (γ:=Unit) (fun _=>bV [(0,.one (.t (.p false 112 (jC M N rs us)))),(21,.one (.t (fV rs))),(22,.one (tv (.int .i64 ((rs.length:Nat):Int)))),(23,.one (tv (.int .i64 ((k:Nat):Int)))),(59,.one (tv (.bool (!M.rowJ rs k))))]) (fun _=>([]:List Ob).map some) (fun _=>True) ?_ fun _ _=>?_
  ·refine rd [0] (fun i=>[].contains i) mixed ?_
   refine dv 0 ?_;refine aJ 1 ?_;refine dv 2 ?_;refine dv 3 ?_;refine dv 4 ?_;refine cO 5 ([fQ (yrs M N)]) rfl ?_;refine dv 6 ?_;refine dv 7 ?_;refine dv 8 ?_
   refine cO 9 ((Fr4.of (M.inc (k))).tr false) (aQ (f:=bY) (z:=8) (o:=0) dA (eL (M:=M) (N:=N) (y:=k) (by omega)) (Nat.le_of_ble_eq_true rfl) rfl) ?_
   refine aF 10 rfl (CB (Qn.of (p:=(M.inc (k))) (hOk.sz_inc (y:=k) (by omega)))) Yf ⟨aB rfl,rfl⟩ (qF (.of (-(M.inc (k))))) ?_
   refine aF 11 rfl (oF (Qn.of (p:=(-(M.inc (k)))) (qE (hOk.sz_inc (y:=k) (by omega))))) Bb ⟨aB rfl,rfl⟩ (qF (.of (abv (-(M.inc (k)))))) ?_
   refine aF 12 rfl (tS (hJ.r _ (aS (rs:=rs) (k:=k) (by omega))).1.qn (Qn.of (p:=(abv (-(M.inc (k))))) (eS (qE (hOk.sz_inc (y:=k) (by omega))) (by omega)))) sX ⟨aB rfl,aB rfl,rfl⟩ (.one (tv (.bool (decide ((aN rs (k)).l.q=(abv (-(M.inc (k))))))))) ?_
   refine WD.split (t:=40) rfl rfl (fun h3=>?_) (fun h3=>?_)
   ·refine df 13 ?_;refine df 14 ?_;refine dv 15 ?_;refine aJ 16 ?_;refine dv 17 ?_;refine dv 18 ?_;refine dv 19 ?_
    refine cO 20 ([.v (.bool (Fr4.of M.cap).s),sU false (Fr4.of M.cap).x,.v (.bool (Fr4.of M.cap).t),sU false (Fr4.of M.cap).y,.v (.int .i64 ((M.b:Nat):Int)),.v (.int .i64 ((M.w:Nat):Int))]) rfl ?_
    refine dv 21 ?_;refine dv 22 ?_;refine dv 23 ?_;refine cO 24 ([fQ (yrs M N)]) rfl ?_;refine dv 25 ?_;refine dv 26 ?_
    refine cO 27 (bY (Fr4.of (M.inc (k)),Fr4.of (M.ring (k)))) (aQ (f:=bY) (z:=8) (o:=0) dA (eL (M:=M) (N:=N) (y:=k) (by omega)) (Nat.le_of_ble_eq_true rfl) rfl) ?_
    refine aF 28 rfl (Ek (b:=.of (M.ring (k))) (Qn.of (p:=M.cap) hOk.cap) (Qn.of (p:=(M.inc (k))) (hOk.sz_inc (y:=k) (by omega)))) Yg ⟨aB rfl,aB rfl,rfl⟩ (qF (.of (M.cap*abv (M.inc (k))))) ?_
    refine aF 29 rfl (tS (hJ.r _ (aS (rs:=rs) (k:=k) (by omega))).2.1.qn (Qn.of (p:=(M.cap*(abv (M.inc (k))))) (oZ hOk.cap (eS (hOk.sz_inc (y:=k) (by omega)) (by omega))))) sX ⟨aB rfl,aB rfl,rfl⟩ (.one (tv (.bool (decide ((aN rs (k)).m.q=(M.cap*(abv (M.inc (k))))))))) ?_
    refine WD.split (t:=57) rfl rfl (fun h4=>?_) (fun h4=>?_)
    ·refine df 30 ?_;refine df 31 ?_;refine aK ?_
     exact⟨(),trivial,aG h0 [] _ _ (by decide) ⟨rfl,rfl,rfl,rfl,eD (by simp only[Mx.rowJ,decide_eq_false h1,decide_eq_true h2,decide_eq_true h3,decide_eq_true h4] <;> first | rfl | simp),trivial⟩ rfl⟩
    refine df 30 ?_;refine df 31 ?_;refine aK ?_
    exact⟨(),trivial,aG h0 [] _ _ (by decide) ⟨rfl,rfl,rfl,rfl,eD (by simp only[Mx.rowJ,decide_eq_false h1,decide_eq_true h2,decide_eq_true h3,decide_eq_false h4] <;> first | rfl | simp),trivial⟩ rfl⟩
   refine df 13 ?_;refine df 14 ?_;refine aC 15 ?_;refine aC 16 ?_;refine aC 17 ?_;refine aC 18 ?_;refine aC 19 ?_;refine aC 20 ?_;refine aC 21 ?_;refine aC 22 ?_
   refine aC 23 ?_;refine aC 24 ?_;refine aC 25 ?_;refine aC 26 ?_;refine aC 27 ?_;refine aC 28 ?_;refine aC 29 ?_;refine aC 30 ?_;refine df 31 ?_;refine aK ?_
   exact⟨(),trivial,aG h0 [] _ _ (by decide) ⟨rfl,rfl,rfl,rfl,eD (by simp only[Mx.rowJ,decide_eq_false h1,decide_eq_true h2,decide_eq_false h3] <;> first | rfl | simp),trivial⟩ rfl⟩
  refine kJ rfl (fun h5=>?_) (fun h5=>?_)
  ·refine sq ?_;refine rl ?_;refine o1 ?_;refine nl ?_;refine rt ?_;exact dY (.inl rfl) rfl (by rw[jT (k:=k) (by omega) (Vf h5),Bool.and_false])
  refine sk ?_;refine rl ?_;refine o1 ?_;refine WL.cast (t:=60) (u':=.int .i64 ((k+1:Nat):Int)) rfl (aI (by omega)) ?_
  refine o1 ?_;refine nl ?_;exact⟨k+1,by omega,⟨by omega,jQ hk.2 (Ka h5)⟩,aG h0 [] _ _ (by decide) ⟨rfl,rfl,rfl,rfl,trivial⟩ rfl⟩
 refine ex ?_;refine sq ?_;refine rl ?_;refine o1 ?_;refine nl ?_;refine rt ?_
 exact dY (.inl rfl) rfl (by rw[decide_eq_true (show rs.length=N by omega),lJ (k:=k) (by omega) hk.2];rfl)
theorem PT {xs:List Fr4}(hx:∀x∈xs,x.ok) (hl:xs.length≤1099511627776) (hs:∀k,Sz 68719476736 (gU ((xs.take k).map Fr4.q))):aE false Tryz.prog 101 [] [.one (.t (sQ false xs))] (aO (qF (.of (gU (xs.map Fr4.q))))):=by
 refine bF Tryz.func101 rfl Tryz.ntmps101 rfl aA rfl fun N9 w9 c0 h0=>?_
 have hz:∀x∈xs,Sz 68719476736 x.q:=fun x h=>(show Qn x x.q from⟨hx x h,rfl⟩).sz
 have h00:((0:Int):Rat)=(gU ((xs.take 0).map Fr4.q)):=by simp[gU]
 refine sq ?_;refine rl ?_;refine al 0 ?_;refine nl ?_;refine sq ?_;refine rl ?_;refine ca (lK (z:=0) (by omega) (by omega)) xM ⟨a1 rfl,rfl⟩ (qF (.of ((0:Int):Rat))) ?_
 refine al 1 ?_;refine st ?_;refine nl ?_;refine sq ?_;refine sq ?_;refine rl ?_;(iterate 3 refine o1 ?_);refine nl ?_;refine bl ?_
 refine lp (γ:=Nat) (fun k=>bV [(2,.one (.pt 0 0)),(3,.one (.pt 1 0)),(7,.one (.t (sQ false xs))),(8,.one (tv (.int .i64 ((xs.length:Nat):Int)))),(9,.one (tv (.int .i64 ((k:Nat):Int))))]) (fun k=>[(⟨26,0,[tv (.bool false),tv (.slice none 0 0),tv (.bool false),tv (.slice none 0 0)]⟩:Ob),⟨26,0,((Fr4.of (gU ((xs.take k).map Fr4.q))).tr false).map .t⟩].map some) (fun k=>k≤xs.length∧True) (fun k=>xs.length-k) 0 ⟨Nat.zero_le _,trivial⟩ (aG h0 [0,1] _ _ (by decide) ⟨rfl,rfl,rfl,rfl,rfl,trivial⟩ ⟨oe rfl rfl,aT (congrArg (fun q=>some (⟨26,0,((Fr4.of q).tr false).map .t⟩:Ob)) h00),rfl⟩) fun k hk=>?_
 have hsz:Sz 68719476736 (gU ((xs.take k).map Fr4.q)):=hs k
 refine sq ?_;refine rl ?_;refine o1 ?_;refine nl ?_;refine sq ?_;refine bS rfl (fun h1=>?_) (fun h1=>?_)
 ·refine sk ?_;refine sq ?_;refine bl ?_;refine sq ?_;refine rl ?_;refine o1 ?_;refine cR ((hG xs (k)).tr false) (Kb xs (k:=k) (by omega)) ?_
  refine al 2 ?_;refine st ?_;refine nl ?_;refine rd [0,1,2] (fun i=>[4].contains i) mixed ?_
  refine aJ 0 ?_;refine aJ 1 ?_;refine aF 2 rfl (eA (⟨hx _ (jJ (by omega)),rfl⟩:Qn (hG xs (k)) (hG xs (k)).q)) gB ⟨aB rfl,rfl⟩ (qF (.of (hG xs (k)).q)) ?_
  refine aF 3 rfl (CN hsz (hz _ (jJ (by omega)))) vL ⟨aB rfl,aB rfl,rfl⟩ (qF (.of ((gU ((xs.take k).map Fr4.q))+(hG xs (k)).q))) ?_
  refine dst 4 ?_;refine aK ?_;refine rl ?_;refine o1 ?_;refine WL.cast (t:=17) (u':=.int .i64 ((k+1:Nat):Int)) rfl (aI (by omega)) ?_
  refine o1 ?_;refine nl ?_;have hst:(gU ((xs.take (k+1)).map Fr4.q))=(gU ((xs.take k).map Fr4.q))+(hG xs (k)).q:=by rw[xN (by omega)];exact rX _ _
  exact⟨k+1,by omega,⟨by omega,trivial⟩,aG h0 [0,1] _ _ (by decide) ⟨rfl,rfl,rfl,rfl,rfl,trivial⟩ ⟨oe rfl rfl,aT (congrArg (fun q=>some (⟨26,0,((Fr4.of q).tr false).map .t⟩:Ob)) hst.symm),rfl⟩⟩
 refine ex ?_;refine sq ?_;refine rl ?_;refine ld ?_;refine st ?_;refine nl ?_;refine rt ?_
 exact en (.inl rfl) rfl (aP (.agg (.cons (.id rfl) (.cons (.id rfl) (.cons (.id rfl) (.cons (.id rfl) .nil)))))) (by decide) (fun h=>by cases h) (by rw[List.take_of_length_le (by omega)];rfl)
theorem vM {rs:List Rf}{us:List Uf}{dl:Uf→Bool}{fd:FuncId}{fst caps:List Tr}(hok:CallOk Tryz.prog fd) (hd:∀u∈us,aE true Tryz.prog fd [] (cM fst++[.agg ((fA false u).map .t)]++cM caps) (aO (.one (tv (.bool (dl u)))))) (hJ:JOk rs us):aE true Tryz.prog 50 [] [.agg (([fV rs,jL us]:List Tr).map .t),.one (.t (.f fd fst caps))] (aO (qO (cJ us dl))):=by
 refine bF Tryz.func50 rfl Tryz.ntmps50 rfl aA rfl fun N9 w9 c0 h0=>?_
 have h9u:=hJ.ul
 have h00:((0:Int):Rat)=(cJ (us.take 0) dl):=by simp[cJ,gU]
 refine sq ?_;refine rl ?_;refine bx 0 ?_;refine al 1 ?_;refine nl ?_;refine sq ?_;refine rl ?_;refine gY 2 (tN) El rfl ?_;refine al 4 ?_;refine st ?_;refine nl ?_;refine sq ?_
 refine sq ?_;refine rl ?_;refine o1 ?_;refine ld ?_;refine o1 ?_;refine o1 ?_;refine nl ?_;refine bl ?_
 refine lp (γ:=Nat) (fun k=>bV [(1,.one (.t (.f fd fst caps))),(4,.one (.pt 0 0)),(5,.one (.pt 1 0)),(10,.one (.t (jL us))),(11,.one (tv (.int .i64 ((us.length:Nat):Int)))),(12,.one (tv (.int .i64 ((k:Nat):Int))))]) (fun k=>[(⟨26,0,[tv (.bool false),tv (.slice none 0 0),tv (.bool false),tv (.slice none 0 0)]⟩:Ob),⟨26,0,[tv (.bool (aL (cJ (us.take k) dl).num)),.sl 2 0 (dg 4294967296 (cJ (us.take k) dl).num.natAbs).length,tv (.bool false),.sl 3 0 (dg 4294967296 (cJ (us.take k) dl).den).length]⟩,⟨109,1,(aV (dg 4294967296 (cJ (us.take k) dl).num.natAbs)).map .t⟩,⟨109,1,(aV (dg 4294967296 (cJ (us.take k) dl).den)).map .t⟩].map some) (fun k=>k≤us.length∧True) (fun k=>us.length-k) 0 ⟨Nat.zero_le _,trivial⟩ (aG h0 [1,4,2,3] _ _ (by decide) ⟨rfl,rfl,rfl,rfl,rfl,rfl,trivial⟩ ⟨oe rfl rfl,oe rfl (congrArg (fun q:Rat=>some (⟨26,0,[tv (.bool (aL q.num)),.sl 2 0 (dg 4294967296 q.num.natAbs).length,tv (.bool false),.sl 3 0 (dg 4294967296 q.den).length]⟩:Ob)) h00),aT (congrArg (fun q:Rat=>some (⟨109,1,(aV (dg 4294967296 q.num.natAbs)).map .t⟩:Ob)) h00),aT (congrArg (fun q:Rat=>some (⟨109,1,(aV (dg 4294967296 q.den)).map .t⟩:Ob)) h00),rfl⟩) fun k hk=>?_
 have hsz:Sz 68719476736 (cJ (us.take k) dl):=(kN hJ dl k).mono (by omega)
 refine sq ?_;refine rl ?_;refine o1 ?_;refine nl ?_;refine sq ?_;refine bS rfl (fun h1=>?_) (fun h1=>?_)
 ·refine sk ?_;refine sq ?_;refine bl ?_;refine sq ?_;refine rl ?_;refine o1 ?_
  refine cR ((fA false) (bK us (k))) (aQ (f:=(fA false)) (z:=14) (o:=0) (eM false) (dG (us:=us) (k:=k) (by omega)) (Nat.le_of_ble_eq_true rfl) rfl) ?_
  refine al 4 ?_;refine st ?_;refine nl ?_;refine sq ?_;refine rl ?_;refine o1 ?_;refine ld ?_
  refine ce 5 [.agg ((fA false (bK us (k))).map .t)] rfl (hd (bK us (k)) (dW (by omega))) hok ⟨rfl,rfl⟩ ?_
  refine nl ?_;refine kJ rfl (fun h2=>?_) (fun h2=>?_)
  ·refine rl ?_;refine ld ?_;refine o1 ?_;refine ld ?_
   refine gY 5 (pW (a:=.of (cJ (us.take k) dl)) (Qn.of hsz) (hJ.u _ (dW (us:=us) (k:=k) (by omega))).1.qn) sS ⟨KM rfl (.cons .t (.cons (.sl rfl rfl (cC _ _ rfl) (aZ _)) (.cons .t (.cons (.sl rfl rfl (cC _ _ rfl) (aZ _)) .nil)))),aB rfl,rfl⟩ ?_
   refine st ?_;refine nl ?_;refine rl ?_;refine o1 ?_;refine WL.cast (t:=23) (u':=.int .i64 ((k+1:Nat):Int)) rfl (aI (by omega)) ?_
   refine o1 ?_;refine nl ?_;have hst:(cJ (us.take (k+1)) dl)=(cJ (us.take k) dl)+(bK us (k)).n.q:=(vF (by omega)).trans (if_pos h2)
   exact⟨k+1,by omega,⟨by omega,trivial⟩,aG h0 [0,1,5,6] _ _ (by decide) ⟨rfl,rfl,rfl,rfl,rfl,rfl,trivial⟩ ⟨oe rfl rfl,oe rfl (congrArg (fun q:Rat=>some (⟨26,0,[tv (.bool (aL q.num)),.sl 5 0 (dg 4294967296 q.num.natAbs).length,tv (.bool false),.sl 6 0 (dg 4294967296 q.den).length]⟩:Ob)) hst.symm),aT (congrArg (fun q:Rat=>some (⟨109,1,(aV (dg 4294967296 q.num.natAbs)).map .t⟩:Ob)) hst.symm),aT (congrArg (fun q:Rat=>some (⟨109,1,(aV (dg 4294967296 q.den)).map .t⟩:Ob)) hst.symm),rfl⟩⟩
  refine sk ?_;refine rl ?_;refine o1 ?_;refine WL.cast (t:=23) (u':=.int .i64 ((k+1:Nat):Int)) rfl (aI (by omega)) ?_
  refine o1 ?_;refine nl ?_;have hst:(cJ (us.take (k+1)) dl)=(cJ (us.take k) dl):=(vF (by omega)).trans (if_neg (by rw[h2];decide))
  exact⟨k+1,by omega,⟨by omega,trivial⟩,aG h0 [0,1,2,3] _ _ (by decide) ⟨rfl,rfl,rfl,rfl,rfl,rfl,trivial⟩ ⟨oe rfl rfl,oe rfl (congrArg (fun q:Rat=>some (⟨26,0,[tv (.bool (aL q.num)),.sl 2 0 (dg 4294967296 q.num.natAbs).length,tv (.bool false),.sl 3 0 (dg 4294967296 q.den).length]⟩:Ob)) hst.symm),aT (congrArg (fun q:Rat=>some (⟨109,1,(aV (dg 4294967296 q.num.natAbs)).map .t⟩:Ob)) hst.symm),aT (congrArg (fun q:Rat=>some (⟨109,1,(aV (dg 4294967296 q.den)).map .t⟩:Ob)) hst.symm),rfl⟩⟩
 refine ex ?_;refine sq ?_;refine rl ?_;refine ld ?_;refine st ?_;refine nl ?_;refine rt ?_;have hkk:us.take k=us:=List.take_of_length_le (by omega)
 exact en (.inl rfl) rfl (aP (.agg (.cons (.id rfl) (.cons (.sl (trs:=aV (dg 4294967296 (cJ (us.take k) dl).num.natAbs)) rfl rfl (bB _) (aZ _)) (.cons (.id rfl) (.cons (.sl (trs:=aV (dg 4294967296 (cJ (us.take k) dl).den)) rfl rfl (bB _) (aZ _)) .nil)))))) (by decide) (fun _=>by rw[hkk];exact mH _) (by rw[hkk];rfl)
theorem KY {u:Uf}{y:Int}:aE true Tryz.prog 51 [] [.agg ((fA false u).map .t),.one (.t (.p false 3 [.v (.int .i64 y)]))] (aO (.one (tv (.bool (decide (u.v=y)))))):=by
 refine bF Tryz.func51 rfl Tryz.ntmps51 rfl aA rfl fun N9 w9 c0 h0=>?_
 refine WP.sub (oX (i:=1) rfl rfl) ?_;refine sq ?_;refine rl ?_;refine bx 0 ?_;refine o1 ?_;refine nl ?_;refine sq ?_;refine rl ?_;refine o1 ?_;refine ld ?_
 refine cR ([.v (.int .i64 y)]) rfl ?_;refine o1 ?_;refine o1 ?_;refine nl ?_;refine rt ?_;exact en (.inl rfl) rfl (aP (bL _)) (by decide) (fun _=>trivial) rfl
theorem PU {rs:List Rf}{us:List Uf}{y:Int}(hJ:JOk rs us):aE true Tryz.prog 18 [] [.agg (([fV rs,jL us]:List Tr).map .t),.one (tv (.int .i64 y))] (aO (qO ((Mx.ofJ us y)))):=by
 refine bF Tryz.func18 rfl Tryz.ntmps18 rfl aA rfl fun N9 w9 c0 h0=>?_
 refine sq ?_;refine rl ?_;refine bx 0 ?_;refine bx 1 ?_;refine WL.sub (wI (i:=3) (k:=1) (t:=3) (l:=[.v (.int .i64 y)]) rfl rfl rfl (.one .sl)) ?_;refine al 2 ?_;refine nl ?_
 refine sq ?_;refine rl ?_;refine ld ?_;refine o1 ?_
 refine gY 3 (vM (rs:=rs) (dl:=fun u=>decide (u.v=y)) (fst:=[]) (caps:=[.p false 3 [.v (.int .i64 y)]]) TJ (fun u _=>KY (u:=u) (y:=y)) hJ) Rp ⟨aB rfl,a1 rfl,rfl⟩ ?_
 refine st ?_;refine nl ?_;refine rt ?_
 exact en (.inl rfl) rfl (aP (.agg (.cons (.id rfl) (.cons (.sl (trs:=aV (dg 4294967296 (Mx.ofJ us y).num.natAbs)) rfl rfl (bB _) (aZ _)) (.cons (.id rfl) (.cons (.sl (trs:=aV (dg 4294967296 (Mx.ofJ us y).den)) rfl rfl (bB _) (aZ _)) .nil)))))) (by decide) (fun _=>mH _) rfl
theorem KZ {u:Uf}{y:Int}:aE true Tryz.prog 53 [] [.agg ((fA false u).map .t),.one (.t (.p false 3 [.v (.int .i64 y)]))] (aO (.one (tv (.bool (decide (u.y=y)))))):=by
 refine bF Tryz.func53 rfl Tryz.ntmps53 rfl aA rfl fun N9 w9 c0 h0=>?_
 refine WP.sub (oX (i:=1) rfl rfl) ?_;refine sq ?_;refine rl ?_;refine bx 0 ?_;refine o1 ?_;refine nl ?_;refine sq ?_;refine rl ?_;refine o1 ?_;refine ld ?_
 refine cR ([.v (.int .i64 y)]) rfl ?_;refine o1 ?_;refine o1 ?_;refine nl ?_;refine rt ?_;exact en (.inl rfl) rfl (aP (bL _)) (by decide) (fun _=>trivial) rfl
theorem Db {rs:List Rf}{us:List Uf}{y:Int}(hJ:JOk rs us):aE true Tryz.prog 20 [] [.agg (([fV rs,jL us]:List Tr).map .t),.one (tv (.int .i64 y))] (aO (qO ((Mx.inJ us y)))):=by
 refine bF Tryz.func20 rfl Tryz.ntmps20 rfl aA rfl fun N9 w9 c0 h0=>?_
 refine sq ?_;refine rl ?_;refine bx 0 ?_;refine bx 1 ?_;refine WL.sub (wI (i:=3) (k:=1) (t:=3) (l:=[.v (.int .i64 y)]) rfl rfl rfl (.one .sl)) ?_;refine al 2 ?_;refine nl ?_
 refine sq ?_;refine rl ?_;refine ld ?_;refine o1 ?_
 refine gY 3 (vM (rs:=rs) (dl:=fun u=>decide (u.y=y)) (fst:=[]) (caps:=[.p false 3 [.v (.int .i64 y)]]) TL (fun u _=>KZ (u:=u) (y:=y)) hJ) Rp ⟨aB rfl,a1 rfl,rfl⟩ ?_
 refine st ?_;refine nl ?_;refine rt ?_
 exact en (.inl rfl) rfl (aP (.agg (.cons (.id rfl) (.cons (.sl (trs:=aV (dg 4294967296 (Mx.inJ us y).num.natAbs)) rfl rfl (bB _) (aZ _)) (.cons (.id rfl) (.cons (.sl (trs:=aV (dg 4294967296 (Mx.inJ us y).den)) rfl rfl (bB _) (aZ _)) .nil)))))) (by decide) (fun _=>mH _) rfl
theorem Vg {a b c:Fr4}{p q r:Rat}(ha:Qn a p) (hb:Qn b q) (hc:Qn c r) (hp:Sz 17179869184 p) (hq:Sz 17179869184 q) (hr:Sz 17179869184 r):aE false Tryz.prog 101 [] [.one (.t (sQ false [a,b,c]))] (aO (qF (.of (p+q+r)))):=by
 obtain⟨ha,rfl⟩:=ha
 obtain⟨hb,rfl⟩:=hb
 obtain⟨hc,rfl⟩:=hc
 have h:=PT (xs:=[a,b,c]) (by simp[ha,hb,hc]) (by simp) (fun k=>by
  have h0:Sz 2 (0:Rat):=(lC (z:=0) (by omega) (by omega)).mono (by omega)
  match k with
  | 0=>exact h0.mono (by omega)
  | 1=>exact(show Sz 68719476736 (0+a.q) from(iH h0 hp).mono (by omega))
  | 2=>exact(show Sz 68719476736 (0+a.q+b.q) from(iH (iH h0 hp) hq).mono (by omega))
  | k+3=>
   rw[List.take_of_length_le (by simp)]
   exact(show Sz 68719476736 (0+a.q+b.q+c.q) from(iH (iH (iH h0 hp) hq) hr).mono (by omega)))
 rwa[show gU ([a,b,c].map Fr4.q)=a.q+b.q+c.q from PR _ _ _]at h
theorem Rq {M:Mx}{N:Nat}{rs:List Rf}{us:List Uf}(hOk:M.Ok N) (hJ:JOk rs us) (hl:rs.length=N):aE true Tryz.prog 56 [] [.one (.t (.p false 112 (jC M N rs us)))] (aO (.one (tv (.bool ((List.range N).all (M.vinJ N rs us)))))):=by
 refine bF Tryz.func56 rfl Tryz.ntmps56 rfl aA rfl fun N9 w9 c0 h0=>?_
 have h9l:=cU M N;have h9r:=hJ.rl;have h9u:=hJ.ul;have h9n:=hOk.n;have h9b:=hOk.b;have h9w:=hOk.w
 refine sq ?_;refine rl ?_;refine o1 ?_;refine nl ?_;refine sq ?_;refine sq ?_;refine rl ?_;(iterate 4 refine o1 ?_);refine cR ([fV rs]) rfl ?_;refine o1 ?_;refine o1 ?_;refine nl ?_
 refine bl ?_
 refine lp (γ:=Nat) (fun k=>bV [(0,.one (.t (.p false 112 (jC M N rs us)))),(10,.one (.t (fV rs))),(11,.one (tv (.int .i64 ((rs.length:Nat):Int)))),(12,.one (tv (.int .i64 ((k:Nat):Int))))]) (fun k=>([]:List Ob).map some) (fun k=>k≤rs.length∧∀j,j<k→M.vinJ N rs us j=true) (fun k=>rs.length-k) 0 ⟨Nat.zero_le _,f0⟩ (aG h0 [] _ _ (by decide) ⟨rfl,rfl,rfl,rfl,trivial⟩ rfl) fun k hk=>?_
 refine sq ?_;refine rl ?_;refine o1 ?_;refine nl ?_;refine sq ?_;refine bS rfl (fun h1=>?_) (fun h1=>?_)
 ·refine sk ?_;refine sq ?_;refine bl ?_;refine sq ?_;refine rl ?_;refine o1 ?_;refine o1 ?_
  refine cR ((iC false) (aN rs (k))) (aQ (f:=(iC false)) (z:=24) (o:=0) (iX false) (fS (rs:=rs) (k:=k) (by omega)) (Nat.le_of_ble_eq_true rfl) rfl) ?_
  refine al 0 ?_;refine o1 ?_;refine st ?_;refine nl ?_;refine sq ?_;refine rd [0] (fun i=>[14].contains i) mixed ?_
  refine dv 0 ?_;refine dv 1 ?_;refine dv 2 ?_;refine cO 3 ([fQ (yrs M N)]) rfl ?_;refine dv 4 ?_;refine WD.cast (t:=21) (u':=.int .i64 ((N:Nat):Int)) rfl (aI (by rw[cU])) ?_
  refine dv 5 ?_;refine dv 6 ?_;refine dv 7 ?_;refine dv 8 ?_;refine dv 9 ?_;refine dv 10 ?_;refine cO 11 ([.v (.int .i64 ((M.w:Nat):Int))]) rfl ?_;refine dv 12 ?_;refine dv 13 ?_
  refine WD.cast (t:=30) (u':=.bool (M.lateJ N k)) rfl (congrArg Value.bool rfl) ?_;refine cN 14 (by kernel_rfl) rfl rfl aA rfl (by trivial) ?_ (fun h=>by first | rfl | cases h)
  refine aK ?_;refine sq ?_
  refine md (γ:=Unit) (fun _=>bV [(0,.one (.t (.p false 112 (jC M N rs us)))),(3,.one (tv (.int .i64 ((k:Nat):Int)))),(4,.one (.pt 0 0)),(10,.one (.t (fV rs))),(11,.one (tv (.int .i64 ((rs.length:Nat):Int)))),(12,.one (tv (.int .i64 ((k:Nat):Int)))),(59,.one (tv (.bool (M.vin5 N rs k))))]) (fun _=>([⟨66,0,(iC false (aN rs (k))).map .t⟩]:List Ob).map some) (fun _=>True) ?_ fun _ _=>?_
  ·refine rl ?_;refine o1 ?_;refine ld ?_
   refine ca (fR (hJ.r _ (aS (rs:=rs) (k:=k) (by omega))).2.2.2.2.1.qn) kA ⟨aB rfl,rfl⟩ (.one (tv (.int .i64 (aN rs (k)).e.q.num.sign))) ?_
   refine o1 ?_;refine o1 ?_;refine WL.split (t:=35) rfl (fun h2=>?_) (fun h2=>?_)
   ·(iterate 4 refine aX ?_);refine o1 ?_;refine o1 ?_;(iterate 7 refine aX ?_);refine o1 ?_;refine o1 ?_;(iterate 8 refine aX ?_);refine o1 ?_;refine nl ?_
    exact⟨(),trivial,aG h0 [0] _ _ (by decide) ⟨rfl,rfl,rfl,rfl,rfl,rfl,eD (by simp only[Mx.vin5,decide_eq_true h1,decide_eq_true h2] <;> first | rfl | simp),trivial⟩ ⟨aT rfl,rfl⟩⟩
   refine o1 ?_;refine ld ?_;refine ca (fR (hJ.r _ (aS (rs:=rs) (k:=k) (by omega))).2.2.2.2.2.qn) kA ⟨aB rfl,rfl⟩ (.one (tv (.int .i64 (aN rs (k)).c.q.num.sign))) ?_
   (iterate 3 refine o1 ?_);refine WL.split (t:=41) rfl (fun h3=>?_) (fun h3=>?_)
   ·(iterate 7 refine aX ?_);refine o1 ?_;refine o1 ?_;(iterate 8 refine aX ?_);refine o1 ?_;refine nl ?_
    exact⟨(),trivial,aG h0 [0] _ _ (by decide) ⟨rfl,rfl,rfl,rfl,rfl,rfl,eD (by simp only[Mx.vin5,decide_eq_true h1,decide_eq_false h2,decide_eq_true h3] <;> first | rfl | simp),trivial⟩ ⟨aT rfl,rfl⟩⟩
   refine o1 ?_;refine o1 ?_;refine WL.splitb (t:=43) rfl (fun h4=>?_) (fun h4=>?_)
   ·refine o1 ?_;refine ld ?_;refine ca (fR (hJ.r _ (aS (rs:=rs) (k:=k) (by omega))).2.2.2.2.2.qn) kA ⟨aB rfl,rfl⟩ (.one (tv (.int .i64 (aN rs (k)).c.q.num.sign))) ?_
    (iterate 4 refine o1 ?_);refine WL.split (t:=50) rfl (fun h5=>?_) (fun h5=>?_)
    ·(iterate 8 refine aX ?_);refine o1 ?_;refine nl ?_
     exact⟨(),trivial,aG h0 [0] _ _ (by decide) ⟨rfl,rfl,rfl,rfl,rfl,rfl,eD (by simp only[Mx.vin5,decide_eq_true h1,decide_eq_false h2,decide_eq_false h3,h4,decide_eq_true h5] <;> first | rfl | simp),trivial⟩ ⟨aT rfl,rfl⟩⟩
    refine o1 ?_;refine WL.cast (t:=51) rfl (congrArg Value.bool h4) ?_;refine o1 ?_;refine o1 ?_;(iterate 4 refine aX ?_);refine o1 ?_;refine o1 ?_;refine nl ?_
    exact⟨(),trivial,aG h0 [0] _ _ (by decide) ⟨rfl,rfl,rfl,rfl,rfl,rfl,eD (by simp only[Mx.vin5,decide_eq_true h1,decide_eq_false h2,decide_eq_false h3,h4,decide_eq_false h5] <;> first | rfl | simp),trivial⟩ ⟨aT rfl,rfl⟩⟩
   (iterate 4 refine aX ?_);(iterate 4 refine o1 ?_);refine WL.cast (t:=51) rfl (congrArg Value.bool h4) ?_;(iterate 3 refine o1 ?_);refine ld ?_
   refine ca (fR (hJ.r _ (aS (rs:=rs) (k:=k) (by omega))).2.2.2.2.1.qn) kA ⟨aB rfl,rfl⟩ (.one (tv (.int .i64 (aN rs (k)).e.q.num.sign))) ?_
   (iterate 3 refine o1 ?_);refine nl ?_
   exact⟨(),trivial,aG h0 [0] _ _ (by decide) ⟨rfl,rfl,rfl,rfl,rfl,rfl,eD (by simp only[Mx.vin5,decide_eq_true h1,decide_eq_false h2,decide_eq_false h3,h4] <;> first | rfl | simp),trivial⟩ ⟨aT rfl,rfl⟩⟩
  refine kJ rfl (fun h6=>?_) (fun h6=>?_)
  ·refine sq ?_;refine rl ?_;refine o1 ?_;refine nl ?_;refine rt ?_;exact dY (.inl rfl) rfl ((jT (k:=k) (by omega) (by simp only[Mx.vinJ,h6] <;> first | rfl | simp)).symm)
  refine sk ?_;refine sq ?_;refine rd [0] (fun i=>[].contains i) mixed ?_
  refine dv 0 ?_;refine aJ 1 ?_;refine dv 2 ?_;refine dv 3 ?_;refine dv 4 ?_;refine cO 5 ([fV rs,jL us]) rfl ?_;refine dv 6 ?_;refine dv 8 ?_;refine aJ 9 ?_;refine dv 10 ?_
  refine aJ 11 ?_;refine aF 7 rfl (PU (rs:=rs) (y:=((k:Nat):Int)) hJ) TM ⟨aB rfl,a1 rfl,rfl⟩ (qF (.of (Mx.ofJ us ((k:Nat):Int)))) ?_
  refine fJ (key:=1) 12 (by kernel_rfl) rfl rfl aA rfl ⟨rfl,trivial⟩ ?_
  refine jW (i:=72) (k:=1) (t:=26) (t':=49) (z:=4) (n:=3) (l:=[(.of (Mx.ofJ us ((k:Nat):Int))),(aN rs (k)).e,(aN rs (k)).c].flatMap (Fr4.tr false)) rfl rfl rfl rfl (.one .sl) (by rfl) (by rfl) ?_
  refine aF 13 rfl ((Vg (a:=(.of (Mx.ofJ us ((k:Nat):Int)))) (b:=(aN rs (k)).e) (c:=(aN rs (k)).c) (Qn.of (dB hJ _)) (hJ.r _ (aS (rs:=rs) (k:=k) (by omega))).2.2.2.2.1.qn (hJ.r _ (aS (rs:=rs) (k:=k) (by omega))).2.2.2.2.2.qn ((dB hJ _).mono (by omega)) ((hJ.r _ (aS (rs:=rs) (k:=k) (by omega))).2.2.2.2.1.2.1.mono (by omega)) ((hJ.r _ (aS (rs:=rs) (k:=k) (by omega))).2.2.2.2.2.2.1.mono (by omega)))) CO ⟨a1 rfl,rfl⟩ (qF (.of ((Mx.ofJ us ((k:Nat):Int))+(aN rs (k)).e.q+(aN rs (k)).c.q))) ?_
  refine aF 14 rfl (tS (hJ.r _ (aS (rs:=rs) (k:=k) (by omega))).1.qn (Qn.of (p:=((Mx.ofJ us ((k:Nat):Int))+(aN rs (k)).e.q+(aN rs (k)).c.q)) (dE (dE (dB hJ _) (hJ.r _ (aS (rs:=rs) (k:=k) (by omega))).2.2.2.2.1.2.1) (hJ.r _ (aS (rs:=rs) (k:=k) (by omega))).2.2.2.2.2.2.1))) sX ⟨aB rfl,aB rfl,rfl⟩ (.one (tv (.bool (decide ((aN rs (k)).l.q=((Mx.ofJ us ((k:Nat):Int))+(aN rs (k)).e.q+(aN rs (k)).c.q)))))) ?_
  refine WD.split (t:=74) rfl rfl (fun h7=>?_) (fun h7=>?_)
  ·refine df 15 ?_;refine aK ?_;refine jN rfl ?_;refine sk ?_;refine rl ?_;refine o1 ?_;refine WL.cast (t:=76) (u':=.int .i64 ((k+1:Nat):Int)) rfl (aI (by omega)) ?_
   refine o1 ?_;refine nl ?_
   exact⟨k+1,by omega,⟨by omega,jQ hk.2 (by simp only[Mx.vinJ,h6,decide_eq_true h7] <;> first | rfl | simp)⟩,aG h0 [] _ _ (by decide) ⟨rfl,rfl,rfl,rfl,trivial⟩ rfl⟩
  refine df 15 ?_;refine aK ?_;refine fY rfl ?_;refine sq ?_;refine rl ?_;refine o1 ?_;refine nl ?_;refine rt ?_
  exact dY (.inl rfl) rfl ((jT (k:=k) (by omega) (by simp only[Mx.vinJ,decide_eq_false h7,Bool.and_false])).symm)
 refine ex ?_;refine sq ?_;refine rl ?_;refine o1 ?_;refine nl ?_;refine rt ?_;exact dY (.inl rfl) rfl ((lJ (k:=k) (by omega) hk.2).symm)
theorem LA {M:Mx}{N:Nat}{rs:List Rf}{us:List Uf}(hOk:M.Ok N) (hJ:JOk rs us) (hl:rs.length=N):aE true Tryz.prog 57 [] [.one (.t (.p false 112 (jC M N rs us)))] (aO (.one (tv (.bool ((List.range N).all (M.capJ rs us)))))):=by
 refine bF Tryz.func57 rfl Tryz.ntmps57 rfl aA rfl fun N9 w9 c0 h0=>?_
 have h9l:=cU M N;have h9r:=hJ.rl;have h9u:=hJ.ul;have h9n:=hOk.n;have h9b:=hOk.b;have h9w:=hOk.w
 refine sq ?_;refine rl ?_;refine o1 ?_;refine nl ?_;refine sq ?_;refine sq ?_;refine rl ?_;(iterate 4 refine o1 ?_);refine cR ([fV rs]) rfl ?_;refine o1 ?_;refine o1 ?_;refine nl ?_
 refine bl ?_
 refine lp (γ:=Nat) (fun k=>bV [(0,.one (.t (.p false 112 (jC M N rs us)))),(11,.one (.t (fV rs))),(12,.one (tv (.int .i64 ((rs.length:Nat):Int)))),(13,.one (tv (.int .i64 ((k:Nat):Int))))]) (fun k=>([]:List Ob).map some) (fun k=>k≤rs.length∧∀j,j<k→M.capJ rs us j=true) (fun k=>rs.length-k) 0 ⟨Nat.zero_le _,f0⟩ (aG h0 [] _ _ (by decide) ⟨rfl,rfl,rfl,rfl,trivial⟩ rfl) fun k hk=>?_
 refine sq ?_;refine rl ?_;refine o1 ?_;refine nl ?_;refine sq ?_;refine bS rfl (fun h1=>?_) (fun h1=>?_)
 ·refine sk ?_;refine sq ?_;refine bl ?_;refine sq ?_;refine rl ?_;refine o1 ?_;refine o1 ?_
  refine cR ((iC false) (aN rs (k))) (aQ (f:=(iC false)) (z:=24) (o:=0) (iX false) (fS (rs:=rs) (k:=k) (by omega)) (Nat.le_of_ble_eq_true rfl) rfl) ?_
  refine al 0 ?_;refine o1 ?_;refine st ?_;refine nl ?_
  refine md (γ:=Unit) (fun _=>bV [(0,.one (.t (.p false 112 (jC M N rs us)))),(3,.one (tv (.int .i64 ((k:Nat):Int)))),(4,.one (.pt 0 0)),(5,.one (.pt 1 0)),(6,.one (.pt 2 0)),(11,.one (.t (fV rs))),(12,.one (tv (.int .i64 ((rs.length:Nat):Int)))),(13,.one (tv (.int .i64 ((k:Nat):Int))))]) (fun _=>([⟨66,0,(iC false (aN rs (k))).map .t⟩,⟨26,0,((Fr4.of (Mx.inJ us ((k:Nat):Int))).tr false).map .t⟩,⟨26,0,((Fr4.of (M.ring (k))).tr false).map .t⟩]:List Ob).map some) (fun _=>True) ?_ fun _ _=>?_
  ·refine rd [0] (fun i=>[17].contains i) mixed ?_
   refine dv 0 ?_;refine dv 1 ?_;refine dv 2 ?_;refine cO 3 ([fV rs,jL us]) rfl ?_;refine dv 4 ?_;refine dv 6 ?_;refine dv 7 ?_;refine dv 8 ?_;refine cO 9 ([fQ (yrs M N)]) rfl ?_
   refine dv 10 ?_;refine dv 11 ?_;refine dv 12 ?_
   refine cO 13 ((Fr4.of (M.ring (k))).tr false) (aQ (f:=bY) (z:=8) (o:=4) dA (eL (M:=M) (N:=N) (y:=k) (by omega)) (Nat.le_of_ble_eq_true rfl) rfl) ?_
   refine WO.three (i:=5) (j:=14) (m:=15) (by kernel_rfl) ?_ ?_ ?_
   ·refine dC 5 rfl (Db (rs:=rs) (y:=((k:Nat):Int)) hJ) Kc ⟨aB rfl,a1 rfl,rfl⟩ (qF (.of (Mx.inJ us ((k:Nat):Int)))) ?_;refine WO.two (i:=14) (j:=15) (by kernel_rfl) ?_ ?_
    ·refine bM (key:=1) 14 rfl rfl aA rfl ⟨rfl,trivial⟩ ?_;refine eO (key:=2) 15 (by kernel_rfl) rfl rfl aA rfl ⟨rfl,trivial⟩ ?_
     refine aY 16 (by kernel_rfl) rfl rfl aA rfl rfl rfl rfl ⟨rfl,trivial⟩ ?_
     refine dst 17 ?_;refine aK ?_;exact⟨(),trivial,aG h0 [0,1,2] _ _ (by decide) ⟨rfl,rfl,rfl,rfl,rfl,rfl,rfl,rfl,trivial⟩ ⟨aT rfl,oe rfl rfl,oe rfl rfl,rfl⟩⟩
    refine bM (key:=1) 15 rfl rfl aA rfl ⟨rfl,trivial⟩ ?_;refine eO (key:=2) 14 (by kernel_rfl) rfl rfl aA rfl ⟨rfl,trivial⟩ ?_
    refine aY 16 (by kernel_rfl) rfl rfl aA rfl rfl rfl rfl ⟨rfl,trivial⟩ ?_
    refine dst 17 ?_;refine aK ?_;exact⟨(),trivial,aG h0 [0,2,1] _ _ (by decide) ⟨rfl,rfl,rfl,rfl,rfl,rfl,rfl,rfl,trivial⟩ ⟨aT rfl,oe rfl rfl,oe rfl rfl,rfl⟩⟩
   ·refine bM (key:=1) 14 rfl rfl aA rfl ⟨rfl,trivial⟩ ?_;refine WO.two (i:=5) (j:=15) (by kernel_rfl) ?_ ?_
    ·refine dC 5 rfl (Db (rs:=rs) (y:=((k:Nat):Int)) hJ) Kc ⟨aB rfl,a1 rfl,rfl⟩ (qF (.of (Mx.inJ us ((k:Nat):Int)))) ?_
     refine eO (key:=2) 15 (by kernel_rfl) rfl rfl aA rfl ⟨rfl,trivial⟩ ?_
     refine aY 16 (by kernel_rfl) rfl rfl aA rfl rfl rfl rfl ⟨rfl,trivial⟩ ?_
     refine dst 17 ?_;refine aK ?_;exact⟨(),trivial,aG h0 [0,1,2] _ _ (by decide) ⟨rfl,rfl,rfl,rfl,rfl,rfl,rfl,rfl,trivial⟩ ⟨aT rfl,oe rfl rfl,oe rfl rfl,rfl⟩⟩
    refine bM (key:=2) 15 rfl rfl aA rfl ⟨rfl,trivial⟩ ?_
    refine aF 5 rfl (Db (rs:=rs) (y:=((k:Nat):Int)) hJ) Kc ⟨aB rfl,a1 rfl,rfl⟩ (qF (.of (Mx.inJ us ((k:Nat):Int)))) ?_
    refine aY 16 (by kernel_rfl) rfl rfl aA rfl rfl rfl rfl ⟨rfl,trivial⟩ ?_
    refine dst 17 ?_;refine aK ?_;exact⟨(),trivial,aG h0 [0,1,2] _ _ (by decide) ⟨rfl,rfl,rfl,rfl,rfl,rfl,rfl,rfl,trivial⟩ ⟨aT rfl,oe rfl rfl,oe rfl rfl,rfl⟩⟩
   refine bM (key:=1) 15 rfl rfl aA rfl ⟨rfl,trivial⟩ ?_;refine WO.two (i:=5) (j:=14) (by kernel_rfl) ?_ ?_
   ·refine dC 5 rfl (Db (rs:=rs) (y:=((k:Nat):Int)) hJ) Kc ⟨aB rfl,a1 rfl,rfl⟩ (qF (.of (Mx.inJ us ((k:Nat):Int)))) ?_
    refine eO (key:=2) 14 (by kernel_rfl) rfl rfl aA rfl ⟨rfl,trivial⟩ ?_
    refine aY 16 (by kernel_rfl) rfl rfl aA rfl rfl rfl rfl ⟨rfl,trivial⟩ ?_
    refine dst 17 ?_;refine aK ?_;exact⟨(),trivial,aG h0 [0,2,1] _ _ (by decide) ⟨rfl,rfl,rfl,rfl,rfl,rfl,rfl,rfl,trivial⟩ ⟨aT rfl,oe rfl rfl,oe rfl rfl,rfl⟩⟩
   refine bM (key:=2) 14 rfl rfl aA rfl ⟨rfl,trivial⟩ ?_
   refine aF 5 rfl (Db (rs:=rs) (y:=((k:Nat):Int)) hJ) Kc ⟨aB rfl,a1 rfl,rfl⟩ (qF (.of (Mx.inJ us ((k:Nat):Int)))) ?_
   refine aY 16 (by kernel_rfl) rfl rfl aA rfl rfl rfl rfl ⟨rfl,trivial⟩ ?_
   refine dst 17 ?_;refine aK ?_;exact⟨(),trivial,aG h0 [0,2,1] _ _ (by decide) ⟨rfl,rfl,rfl,rfl,rfl,rfl,rfl,rfl,trivial⟩ ⟨aT rfl,oe rfl rfl,oe rfl rfl,rfl⟩⟩
  refine md (γ:=Unit) (fun _=>bV [(0,.one (.t (.p false 112 (jC M N rs us)))),(11,.one (.t (fV rs))),(12,.one (tv (.int .i64 ((rs.length:Nat):Int)))),(13,.one (tv (.int .i64 ((k:Nat):Int)))),(64,.one (tv (.bool (!M.capJ rs us k))))]) (fun _=>([]:List Ob).map some) (fun _=>True) ?_ fun _ _=>?_
  ·refine rd [0,1,2] (fun i=>[].contains i) mixed ?_
   refine dv 0 ?_;refine aJ 1 ?_;refine aJ 2 ?_
   refine aF 3 rfl (tS (hJ.r _ (aS (rs:=rs) (k:=k) (by omega))).2.2.1.qn (Qn.of (p:=(Mx.inJ us ((k:Nat):Int))) (dB hJ _))) sX ⟨aB rfl,aB rfl,rfl⟩ (.one (tv (.bool (decide ((aN rs (k)).u.q=(Mx.inJ us ((k:Nat):Int))))))) ?_
   refine WD.split (t:=35) rfl rfl (fun h2=>?_) (fun h2=>?_)
   ·refine df 4 ?_;refine df 5 ?_;refine aJ 6 ?_;refine aJ 7 ?_;refine dv 9 ?_;refine aJ 10 ?_
    refine aF 8 rfl (pW (Qn.of (p:=(Mx.inJ us ((k:Nat):Int))) (dB hJ _)) (Qn.of (p:=(M.ring (k))) (hOk.sz_ring (y:=k) (by omega)))) sS ⟨aB rfl,aB rfl,rfl⟩ (qF (.of ((Mx.inJ us ((k:Nat):Int))+(M.ring (k))))) ?_
    refine aF 11 rfl (zD (Qn.of (p:=((Mx.inJ us ((k:Nat):Int))+(M.ring (k)))) (dE (dB hJ _) (hOk.sz_ring (y:=k) (by omega)))) (hJ.r _ (aS (rs:=rs) (k:=k) (by omega))).2.1.qn) Ey ⟨aB rfl,aB rfl,rfl⟩ (.one (tv (.int .i64 (((Mx.inJ us ((k:Nat):Int))+(M.ring (k)))-(aN rs (k)).m.q).num.sign))) ?_
    refine df 12 ?_;refine df 13 ?_;refine df 14 ?_;refine WD.split (t:=46) rfl rfl (fun h3=>?_) (fun h3=>?_)
    ·refine aC 15 ?_;refine aC 16 ?_;refine aC 17 ?_;refine aC 18 ?_;refine aC 19 ?_;refine aC 20 ?_;refine aC 21 ?_;refine aC 22 ?_;refine aC 23 ?_;refine aC 24 ?_
     refine aC 26 ?_;refine aC 27 ?_;refine aC 25 ?_;refine aC 28 ?_;refine aC 29 ?_;refine aC 30 ?_;refine aC 31 ?_;refine df 32 ?_;refine aK ?_
     exact⟨(),trivial,aG h0 [] _ _ (by decide) ⟨rfl,rfl,rfl,rfl,eD (by simp only[Mx.capJ,decide_eq_true h1,decide_eq_true h2,decide_eq_true h3] <;> first | rfl | simp),trivial⟩ rfl⟩
    refine dv 15 ?_;refine aJ 16 ?_;refine dv 17 ?_;refine dv 18 ?_;refine dv 19 ?_;refine cO 20 ([fQ (yrs M N)]) rfl ?_;refine dv 21 ?_;refine dv 22 ?_;refine dv 23 ?_
    refine cO 24 ((Fr4.of (M.inc (k))).tr false) (aQ (f:=bY) (z:=8) (o:=0) dA (eL (M:=M) (N:=N) (y:=k) (by omega)) (Nat.le_of_ble_eq_true rfl) rfl) ?_
    refine aJ 26 ?_;refine aJ 27 ?_;refine aF 25 rfl (oF (Qn.of (p:=(M.inc (k))) (hOk.sz_inc (y:=k) (by omega)))) Bb ⟨aB rfl,rfl⟩ (qF (.of (abv (M.inc (k))))) ?_
    refine aF 28 rfl (pW (Qn.of (p:=(Mx.inJ us ((k:Nat):Int))) (dB hJ _)) (Qn.of (p:=(M.ring (k))) (hOk.sz_ring (y:=k) (by omega)))) sS ⟨aB rfl,aB rfl,rfl⟩ (qF (.of ((Mx.inJ us ((k:Nat):Int))+(M.ring (k))))) ?_
    refine aF 29 rfl (mM (Qn.of (p:=(abv (M.inc (k)))) (eS (hOk.sz_inc (y:=k) (by omega)) (by omega))) (Qn.of (p:=((Mx.inJ us ((k:Nat):Int))+(M.ring (k)))) (dE (dB hJ _) (hOk.sz_ring (y:=k) (by omega))))) pJ ⟨aB rfl,aB rfl,rfl⟩ (qF (.of ((abv (M.inc (k)))-((Mx.inJ us ((k:Nat):Int))+(M.ring (k)))))) ?_
    refine aF 30 rfl (tS (hJ.r _ (aS (rs:=rs) (k:=k) (by omega))).2.2.2.1.qn (Qn.of (p:=((abv (M.inc (k)))-((Mx.inJ us ((k:Nat):Int))+(M.ring (k))))) (Ex (eS (hOk.sz_inc (y:=k) (by omega)) (by omega)) (dE (dB hJ _) (hOk.sz_ring (y:=k) (by omega)))))) sX ⟨aB rfl,aB rfl,rfl⟩ (.one (tv (.bool (decide ((aN rs (k)).t.q=((abv (M.inc (k)))-((Mx.inJ us ((k:Nat):Int))+(M.ring (k))))))))) ?_
    refine WD.split (t:=62) rfl rfl (fun h4=>?_) (fun h4=>?_)
    ·refine df 31 ?_;refine df 32 ?_;refine aK ?_
     exact⟨(),trivial,aG h0 [] _ _ (by decide) ⟨rfl,rfl,rfl,rfl,eD (by simp only[Mx.capJ,decide_eq_true h1,decide_eq_true h2,decide_eq_false h3,decide_eq_true h4] <;> first | rfl | simp),trivial⟩ rfl⟩
    refine df 31 ?_;refine df 32 ?_;refine aK ?_
    exact⟨(),trivial,aG h0 [] _ _ (by decide) ⟨rfl,rfl,rfl,rfl,eD (by simp only[Mx.capJ,decide_eq_true h1,decide_eq_true h2,decide_eq_false h3,decide_eq_false h4] <;> first | rfl | simp),trivial⟩ rfl⟩
   refine df 4 ?_;refine df 5 ?_;refine aC 6 ?_;refine aC 7 ?_;refine aC 9 ?_;refine aC 10 ?_;refine aC 8 ?_;refine aC 11 ?_;refine aC 12 ?_;refine df 13 ?_;refine df 14 ?_
   refine aC 15 ?_;refine aC 16 ?_;refine aC 17 ?_;refine aC 18 ?_;refine aC 19 ?_;refine aC 20 ?_;refine aC 21 ?_;refine aC 22 ?_;refine aC 23 ?_;refine aC 24 ?_
   refine aC 26 ?_;refine aC 27 ?_;refine aC 25 ?_;refine aC 28 ?_;refine aC 29 ?_;refine aC 30 ?_;refine aC 31 ?_;refine df 32 ?_;refine aK ?_
   exact⟨(),trivial,aG h0 [] _ _ (by decide) ⟨rfl,rfl,rfl,rfl,eD (by simp only[Mx.capJ,decide_eq_true h1,decide_eq_false h2] <;> first | rfl | simp),trivial⟩ rfl⟩
  refine kJ rfl (fun h5=>?_) (fun h5=>?_)
  ·refine sq ?_;refine rl ?_;refine o1 ?_;refine nl ?_;refine rt ?_;exact dY (.inl rfl) rfl ((jT (k:=k) (by omega) (Vf h5)).symm)
  refine sk ?_;refine rl ?_;refine o1 ?_;refine WL.cast (t:=65) (u':=.int .i64 ((k+1:Nat):Int)) rfl (aI (by omega)) ?_
  refine o1 ?_;refine nl ?_;exact⟨k+1,by omega,⟨by omega,jQ hk.2 (Ka h5)⟩,aG h0 [] _ _ (by decide) ⟨rfl,rfl,rfl,rfl,trivial⟩ rfl⟩
 refine ex ?_;refine sq ?_;refine rl ?_;refine o1 ?_;refine nl ?_;refine rt ?_;exact dY (.inl rfl) rfl ((lJ (k:=k) (by omega) hk.2).symm)
theorem LB {u:Uf}{v y:Int}:aE true Tryz.prog 145 [] [.agg ((fA false u).map .t),.one (.t (.p false 3 [.v (.int .i64 v)])),.one (.t (.p false 3 [.v (.int .i64 y)]))] (aO (.one (tv (.bool (decide (u.v=v)&&decide (y<u.y)))))):=by
 refine bF Tryz.func145 rfl Tryz.ntmps145 rfl aA rfl fun N9 w9 c0 h0=>?_
 refine WP.sub ((oX (i:=1) rfl rfl).trans (oX (i:=2) rfl rfl)) ?_;refine sq ?_;refine rl ?_;refine bx 0 ?_;refine o1 ?_;refine nl ?_;refine sq ?_;refine rl ?_;refine o1 ?_;refine ld ?_
 refine cR ([.v (.int .i64 v)]) rfl ?_;refine o1 ?_;refine o1 ?_;refine WL.split (t:=9) rfl (fun h1=>?_) (fun h1=>?_)
 ·refine o1 ?_;refine ld ?_;refine cR ([.v (.int .i64 y)]) rfl ?_;(iterate 3 refine o1 ?_);refine nl ?_;refine rt ?_
  exact dY (.inl rfl) rfl (by simp only[decide_eq_true h1] <;> first | rfl | simp)
 (iterate 4 refine aX ?_);refine o1 ?_;refine o1 ?_;refine nl ?_;refine rt ?_;exact dY (.inl rfl) rfl (by simp only[decide_eq_false h1] <;> first | rfl | simp)
theorem CP {M:Mx}{N:Nat}{rs:List Rf}{us:List Uf}(hOk:M.Ok N) (hJ:JOk rs us) (hl:rs.length=N){v y:Int}(h1:0≤v) (h2:v<(N:Int)):aE true Tryz.prog 102 [] [.one (.t (.p false 112 (jC M N rs us))),.one (tv (.int .i64 v)),.one (tv (.int .i64 y))] (aO (.one (tv (.bool (!decide ((Mx.remJ rs us v y).num.sign≤0)))))):=by
 refine bF Tryz.func102 rfl Tryz.ntmps102 rfl aA rfl fun N9 w9 c0 h0=>?_
 have h9l:=cU M N;have h9r:=hJ.rl;have h9u:=hJ.ul;have h9n:=hOk.n;have h9b:=hOk.b;have h9w:=hOk.w
 refine sq ?_;refine rl ?_;refine bx 0 ?_;refine bx 1 ?_;refine o1 ?_;refine nl ?_;refine sq ?_;refine rl ?_;(iterate 3 refine o1 ?_);refine cR ([fV rs,jL us]) rfl ?_
 refine WL.sub (wI (i:=4) (k:=0) (t:=3) (l:=[.v (.int .i64 v)]) rfl rfl rfl (.one .sl)) ?_;refine WL.sub (wI (i:=5) (k:=1) (t:=3) (l:=[.v (.int .i64 y)]) rfl rfl rfl (.one .sl)) ?_
 refine o1 ?_;refine WL.sub ((oX (i:=4) rfl rfl).trans (oX (i:=5) rfl rfl)) ?_
 refine ca (vM (rs:=rs) (dl:=fun u:Uf=>decide (u.v=v)&&decide (y<u.y)) (fst:=[]) (caps:=[.p false 3 [.v (.int .i64 v)],.p false 3 [.v (.int .i64 y)]]) PV (fun u _=>LB (u:=u) (v:=v) (y:=y)) hJ) Rp ⟨aB rfl,a1 rfl,rfl⟩ (qF (.of (cJ us fun u:Uf=>decide (u.v=v)&&decide (y<u.y)))) ?_
 refine al 2 ?_;refine st ?_;refine nl ?_;refine sq ?_;refine rd [2] (fun i=>[23].contains i) mixed ?_
 refine aJ 0 ?_;refine dv 1 ?_;refine dv 2 ?_;refine dv 3 ?_;refine dv 4 ?_;refine cO 5 ([fV rs]) rfl ?_;refine cO 6 ([.v (.int .i64 v)]) rfl ?_
 refine WD.cast (t:=20) (u':=.int .i64 ((v.toNat:Nat):Int)) rfl (aI (by omega)) ?_
 refine dv 7 ?_;refine dv 8 ?_
 refine cO 9 ((aN rs (v.toNat)).e.tr false) (aQ (f:=(iC false)) (z:=24) (o:=16) (iX false) (fS (rs:=rs) (k:=v.toNat) (by omega)) (Nat.le_of_ble_eq_true rfl) rfl) ?_
 refine dv 10 ?_;refine dv 11 ?_;refine dv 12 ?_;refine dv 13 ?_;refine cO 14 ([fV rs]) rfl ?_;refine cO 15 ([.v (.int .i64 v)]) rfl ?_
 refine WD.cast (t:=29) (u':=.int .i64 ((v.toNat:Nat):Int)) rfl (aI (by omega)) ?_
 refine dv 16 ?_;refine dv 17 ?_
 refine cO 18 ((aN rs (v.toNat)).c.tr false) (aQ (f:=(iC false)) (z:=24) (o:=20) (iX false) (fS (rs:=rs) (k:=v.toNat) (by omega)) (Nat.le_of_ble_eq_true rfl) rfl) ?_
 refine fJ (key:=3) 19 (by kernel_rfl) rfl rfl aA rfl ⟨rfl,trivial⟩ ?_
 refine jW (i:=33) (k:=3) (t:=26) (t':=49) (z:=4) (n:=3) (l:=[(.of (cJ us fun u:Uf=>decide (u.v=v)&&decide (y<u.y))),(aN rs (v.toNat)).e,(aN rs (v.toNat)).c].flatMap (Fr4.tr false)) rfl rfl rfl rfl (.one .sl) (by rfl) (by rfl) ?_
 refine aF 20 rfl ((Vg (a:=(.of (cJ us fun u:Uf=>decide (u.v=v)&&decide (y<u.y)))) (b:=(aN rs (v.toNat)).e) (c:=(aN rs (v.toNat)).c) (Qn.of (dB hJ _)) (hJ.r _ (aS (rs:=rs) (k:=v.toNat) (by omega))).2.2.2.2.1.qn (hJ.r _ (aS (rs:=rs) (k:=v.toNat) (by omega))).2.2.2.2.2.qn ((dB hJ _).mono (by omega)) ((hJ.r _ (aS (rs:=rs) (k:=v.toNat) (by omega))).2.2.2.2.1.2.1.mono (by omega)) ((hJ.r _ (aS (rs:=rs) (k:=v.toNat) (by omega))).2.2.2.2.2.2.1.mono (by omega)))) CO ⟨a1 rfl,rfl⟩ (qF (.of ((cJ us fun u:Uf=>decide (u.v=v)&&decide (y<u.y))+(aN rs (v.toNat)).e.q+(aN rs (v.toNat)).c.q))) ?_
 refine aF 21 rfl (fR (Qn.of (p:=((cJ us fun u:Uf=>decide (u.v=v)&&decide (y<u.y))+(aN rs (v.toNat)).e.q+(aN rs (v.toNat)).c.q)) (dE (dE (dB hJ _) (hJ.r _ (aS (rs:=rs) (k:=v.toNat) (by omega))).2.2.2.2.1.2.1) (hJ.r _ (aS (rs:=rs) (k:=v.toNat) (by omega))).2.2.2.2.2.2.1))) kA ⟨aB rfl,rfl⟩ (.one (tv (.int .i64 ((cJ us fun u:Uf=>decide (u.v=v)&&decide (y<u.y))+(aN rs (v.toNat)).e.q+(aN rs (v.toNat)).c.q).num.sign))) ?_
 refine df 22 ?_;refine cN 23 (by kernel_rfl) rfl rfl aA rfl (by trivial) ?_ (fun h=>by first | rfl | cases h)
 refine aK ?_;refine rt ?_;exact dY (.inl rfl) rfl (TG _)
theorem LC {u:Uf}{y t:Int}:aE true Tryz.prog 146 [] [.agg ((fA false u).map .t),.one (.t (.p false 3 [.v (.int .i64 y)])),.one (.t (.p false 3 [.v (.int .i64 t)]))] (aO (.one (tv (.bool (decide (u.y=y)&&decide (max u.v y≤t)))))):=by
 refine bF Tryz.func146 rfl Tryz.ntmps146 rfl aA rfl fun N9 w9 c0 h0=>?_
 refine WP.sub ((oX (i:=1) rfl rfl).trans (oX (i:=2) rfl rfl)) ?_;refine sq ?_;refine rl ?_;refine bx 0 ?_;refine o1 ?_;refine nl ?_;refine sq ?_;refine rl ?_;refine o1 ?_;refine ld ?_
 refine cR ([.v (.int .i64 y)]) rfl ?_;refine o1 ?_;refine o1 ?_;refine WL.split (t:=9) rfl (fun h1=>?_) (fun h1=>?_)
 ·refine o1 ?_;refine ld ?_;refine cR ([.v (.int .i64 y)]) rfl ?_;refine o1 ?_;refine cR ([.v (.int .i64 t)]) rfl ?_;(iterate 3 refine o1 ?_);refine nl ?_;refine rt ?_
  exact dY (.inl rfl) rfl (by simp only[decide_eq_true h1] <;> first | rfl | simp)
 (iterate 6 refine aX ?_);refine o1 ?_;refine o1 ?_;refine nl ?_;refine rt ?_;exact dY (.inl rfl) rfl (by simp only[decide_eq_false h1] <;> first | rfl | simp)
theorem PW {M:Mx}{N:Nat}{rs:List Rf}{us:List Uf}(hOk:M.Ok N) (hJ:JOk rs us) (hl:rs.length=N){y t:Int}(h1:0≤y) (h2:y<(N:Int)):aE true Tryz.prog 103 [] [.one (.t (.p false 112 (jC M N rs us))),.one (tv (.int .i64 y)),.one (tv (.int .i64 t))] (aO (.one (tv (.bool (decide (0≤(M.fulJ us y t-(aN rs y.toNat).m.q).num.sign)))))):=by
 refine bF Tryz.func103 rfl Tryz.ntmps103 rfl aA rfl fun N9 w9 c0 h0=>?_
 have h9l:=cU M N;have h9r:=hJ.rl;have h9u:=hJ.ul;have h9n:=hOk.n;have h9b:=hOk.b;have h9w:=hOk.w
 refine sq ?_;refine rl ?_;refine bx 0 ?_;refine bx 1 ?_;refine o1 ?_;refine nl ?_;refine sq ?_;refine rl ?_;(iterate 3 refine o1 ?_);refine cR ([fV rs,jL us]) rfl ?_
 refine WL.sub (wI (i:=4) (k:=0) (t:=3) (l:=[.v (.int .i64 y)]) rfl rfl rfl (.one .sl)) ?_;refine WL.sub (wI (i:=5) (k:=1) (t:=3) (l:=[.v (.int .i64 t)]) rfl rfl rfl (.one .sl)) ?_
 refine o1 ?_;refine WL.sub ((oX (i:=4) rfl rfl).trans (oX (i:=5) rfl rfl)) ?_
 refine ca (vM (rs:=rs) (dl:=fun u:Uf=>decide (u.y=y)&&decide (max u.v y≤t)) (fst:=[]) (caps:=[.p false 3 [.v (.int .i64 y)],.p false 3 [.v (.int .i64 t)]]) PX (fun u _=>LC (u:=u) (y:=y) (t:=t)) hJ) Rp ⟨aB rfl,a1 rfl,rfl⟩ (qF (.of (cJ us fun u:Uf=>decide (u.y=y)&&decide (max u.v y≤t)))) ?_
 refine al 2 ?_;refine st ?_;refine nl ?_;refine sq ?_;refine rd [2] (fun i=>[21].contains i) mixed ?_
 refine aJ 0 ?_;refine dv 1 ?_;refine dv 2 ?_;refine dv 3 ?_;refine cO 4 ([fQ (yrs M N)]) rfl ?_;refine cO 5 ([.v (.int .i64 y)]) rfl ?_
 refine WD.cast (t:=19) (u':=.int .i64 ((y.toNat:Nat):Int)) rfl (aI (by omega)) ?_
 refine dv 6 ?_;refine dv 7 ?_
 refine cO 8 ((Fr4.of (M.ring (y.toNat))).tr false) (aQ (f:=bY) (z:=8) (o:=4) dA (eL (M:=M) (N:=N) (y:=y.toNat) (by omega)) (Nat.le_of_ble_eq_true rfl) rfl) ?_
 refine dv 10 ?_;refine dv 11 ?_;refine dv 12 ?_;refine dv 13 ?_;refine cO 14 ([fV rs]) rfl ?_;refine cO 15 ([.v (.int .i64 y)]) rfl ?_
 refine WD.cast (t:=29) (u':=.int .i64 ((y.toNat:Nat):Int)) rfl (aI (by omega)) ?_
 refine dv 16 ?_;refine dv 17 ?_
 refine cO 18 ((aN rs (y.toNat)).m.tr false) (aQ (f:=(iC false)) (z:=24) (o:=4) (iX false) (fS (rs:=rs) (k:=y.toNat) (by omega)) (Nat.le_of_ble_eq_true rfl) rfl) ?_
 refine aF 9 rfl (pW (Qn.of (p:=(cJ us fun u:Uf=>decide (u.y=y)&&decide (max u.v y≤t))) (dB hJ _)) (Qn.of (p:=(M.ring (y.toNat))) (hOk.sz_ring (y:=y.toNat) (by omega)))) sS ⟨aB rfl,aB rfl,rfl⟩ (qF (.of ((cJ us fun u:Uf=>decide (u.y=y)&&decide (max u.v y≤t))+(M.ring (y.toNat))))) ?_
 refine aF 19 rfl (zD (Qn.of (p:=((cJ us fun u:Uf=>decide (u.y=y)&&decide (max u.v y≤t))+(M.ring (y.toNat)))) (dE (dB hJ _) (hOk.sz_ring (y:=y.toNat) (by omega)))) (hJ.r _ (aS (rs:=rs) (k:=y.toNat) (by omega))).2.1.qn) Ey ⟨aB rfl,aB rfl,rfl⟩ (.one (tv (.int .i64 (((cJ us fun u:Uf=>decide (u.y=y)&&decide (max u.v y≤t))+(M.ring (y.toNat)))-(aN rs (y.toNat)).m.q).num.sign))) ?_
 refine df 20 ?_;refine cN 21 (by kernel_rfl) rfl rfl aA rfl (by trivial) ?_ (fun h=>by first | rfl | cases h)
 refine aK ?_;refine rt ?_;exact dY (.inl rfl) rfl (rfl)
theorem FP {M:Mx}{N:Nat}{rs:List Rf}{us:List Uf}(hOk:M.Ok N) (hJ:JOk rs us) (hl:rs.length=N):aE true Tryz.prog 58 [] [.one (.t (.p false 112 (jC M N rs us)))] (aO (.one (tv (.bool ((List.range N).all fun v=>(List.range N).all (M.spentJ N rs us v)))))):=by
 refine bF Tryz.func58 rfl Tryz.ntmps58 rfl aA rfl fun N9 w9 c0 h0=>?_
 have h9l:=cU M N;have h9r:=hJ.rl;have h9u:=hJ.ul;have h9n:=hOk.n;have h9b:=hOk.b;have h9w:=hOk.w
 refine sq ?_;refine rl ?_;refine o1 ?_;refine nl ?_;refine sq ?_;refine sq ?_;refine rl ?_;(iterate 4 refine o1 ?_);refine cR ([fV rs]) rfl ?_;refine o1 ?_;refine o1 ?_;refine nl ?_
 refine bl ?_
 refine lp (γ:=Nat) (fun k=>bV [(0,.one (.t (.p false 112 (jC M N rs us)))),(10,.one (tv (.int .i64 ((rs.length:Nat):Int)))),(11,.one (tv (.int .i64 ((k:Nat):Int))))]) (fun k=>([]:List Ob).map some) (fun k=>k≤rs.length∧∀j,j<k→(fun v=>(List.range N).all (M.spentJ N rs us v)) j=true) (fun k=>rs.length-k) 0 ⟨Nat.zero_le _,f0⟩ (aG h0 [] _ _ (by decide) ⟨rfl,rfl,rfl,trivial⟩ rfl) fun k hk=>?_
 refine sq ?_;refine rl ?_;refine o1 ?_;refine nl ?_;refine sq ?_;refine bS rfl (fun h1=>?_) (fun h1=>?_)
 ·refine sk ?_;refine sq ?_;refine bl ?_;refine sq ?_;refine rl ?_;refine o1 ?_;refine o1 ?_;refine nl ?_;refine sq ?_;refine rl ?_;(iterate 4 refine o1 ?_);refine cR ([fV rs]) rfl ?_
  refine o1 ?_;refine o1 ?_;refine nl ?_;refine bl ?_
  refine lp (γ:=Nat) (fun i=>bV [(0,.one (.t (.p false 112 (jC M N rs us)))),(3,.one (tv (.int .i64 ((k:Nat):Int)))),(10,.one (tv (.int .i64 ((rs.length:Nat):Int)))),(11,.one (tv (.int .i64 ((k:Nat):Int)))),(19,.one (tv (.int .i64 ((rs.length:Nat):Int)))),(20,.one (tv (.int .i64 ((i:Nat):Int))))]) (fun i=>([]:List Ob).map some) (fun i=>i≤rs.length∧∀j,j<i→M.spentJ N rs us k j=true) (fun i=>rs.length-i) 0 ⟨Nat.zero_le _,f0⟩ (aG h0 [] _ _ (by decide) ⟨rfl,rfl,rfl,rfl,rfl,rfl,trivial⟩ rfl) fun i hi=>?_
  refine sq ?_;refine rl ?_;refine o1 ?_;refine nl ?_;refine sq ?_;refine bS rfl (fun h2=>?_) (fun h2=>?_)
  ·refine sk ?_;refine sq ?_;refine bl ?_;refine sq ?_;refine rl ?_;refine o1 ?_;refine o1 ?_;refine nl ?_
   refine md (γ:=Unit) (fun _=>bV [(0,.one (.t (.p false 112 (jC M N rs us)))),(3,.one (tv (.int .i64 ((k:Nat):Int)))),(10,.one (tv (.int .i64 ((rs.length:Nat):Int)))),(11,.one (tv (.int .i64 ((k:Nat):Int)))),(19,.one (tv (.int .i64 ((rs.length:Nat):Int)))),(20,.one (tv (.int .i64 ((i:Nat):Int)))),(41,.one (tv (.bool (!M.spentJ N rs us k i))))]) (fun _=>([]:List Ob).map some) (fun _=>True) ?_ fun _ _=>?_
   ·refine rl ?_;(iterate 3 refine o1 ?_)
    refine ca (Rn hOk hJ (v:=((k:Nat):Int)) (y:=((i:Nat):Int))) Ro ⟨a1 rfl,a1 rfl,a1 rfl,rfl⟩ (.one (tv (.bool (M.win N ((k:Nat):Int) ((i:Nat):Int))))) ?_;refine o1 ?_
    refine WL.splitb (t:=27) rfl (fun h3=>?_) (fun h3=>?_)
    ·(iterate 3 refine o1 ?_)
     refine ca (CP hOk hJ hl (v:=((k:Nat):Int)) (y:=((i:Nat):Int)) (tP h3).1 (tP h3).2.1) CQ ⟨a1 rfl,a1 rfl,a1 rfl,rfl⟩ (.one (tv (.bool (!decide ((Mx.remJ rs us ((k:Nat):Int) ((i:Nat):Int)).num.sign≤0))))) ?_
     refine o1 ?_;refine o1 ?_;refine WL.splitb (t:=33) rfl (fun h4=>?_) (fun h4=>?_)
     ·(iterate 5 refine o1 ?_)
      refine ca (PW hOk hJ hl (y:=((i:Nat):Int)) (t:=(max ((k:Nat):Int) ((i:Nat):Int))) (by omega) (by omega)) PY ⟨a1 rfl,a1 rfl,a1 rfl,rfl⟩ (.one (tv (.bool (decide (0≤(M.fulJ us ((i:Nat):Int) (max ((k:Nat):Int) ((i:Nat):Int))-(aN rs i).m.q).num.sign))))) ?_
      refine WL.splitb (t:=39) rfl (fun h5=>?_) (fun h5=>?_)
      ·refine o1 ?_;refine o1 ?_;refine nl ?_
       exact⟨(),trivial,aG h0 [] _ _ (by decide) ⟨rfl,rfl,rfl,rfl,rfl,rfl,eD (by simp only[Mx.spentJ,decide_eq_true h1,decide_eq_true h2,h3,h4,h5] <;> first | rfl | simp),trivial⟩ rfl⟩
      refine o1 ?_;refine o1 ?_;refine nl ?_
      exact⟨(),trivial,aG h0 [] _ _ (by decide) ⟨rfl,rfl,rfl,rfl,rfl,rfl,eD (by simp only[Mx.spentJ,decide_eq_true h1,decide_eq_true h2,h3,h4,h5] <;> first | rfl | simp),trivial⟩ rfl⟩
     (iterate 7 refine aX ?_);refine o1 ?_;refine nl ?_
     exact⟨(),trivial,aG h0 [] _ _ (by decide) ⟨rfl,rfl,rfl,rfl,rfl,rfl,eD (by simp only[Mx.spentJ,decide_eq_true h1,decide_eq_true h2,h3,h4] <;> first | rfl | simp),trivial⟩ rfl⟩
    (iterate 4 refine aX ?_);refine o1 ?_;refine o1 ?_;(iterate 7 refine aX ?_);refine o1 ?_;refine nl ?_
    exact⟨(),trivial,aG h0 [] _ _ (by decide) ⟨rfl,rfl,rfl,rfl,rfl,rfl,eD (by simp only[Mx.spentJ,decide_eq_true h1,decide_eq_true h2,h3] <;> first | rfl | simp),trivial⟩ rfl⟩
   refine kJ rfl (fun h6=>?_) (fun h6=>?_)
   ·refine sq ?_;refine rl ?_;refine o1 ?_;refine nl ?_;refine rt ?_;exact dY (.inl rfl) rfl ((jT (k:=k) (by omega) (jT (k:=i) (by omega) (Vf h6))).symm)
   refine sk ?_;refine rl ?_;refine o1 ?_;refine WL.cast (t:=42) (u':=.int .i64 ((i+1:Nat):Int)) rfl (aI (by omega)) ?_
   refine o1 ?_;refine nl ?_;exact⟨i+1,by omega,⟨by omega,jQ hi.2 (Ka h6)⟩,aG h0 [] _ _ (by decide) ⟨rfl,rfl,rfl,rfl,rfl,rfl,trivial⟩ rfl⟩
  refine ex ?_;refine rl ?_;refine o1 ?_;refine WL.cast (t:=43) (u':=.int .i64 ((k+1:Nat):Int)) rfl (aI (by omega)) ?_
  refine o1 ?_;refine nl ?_;exact⟨k+1,by omega,⟨by omega,jQ hk.2 (lJ (k:=i) (by omega) hi.2)⟩,aG h0 [] _ _ (by decide) ⟨rfl,rfl,rfl,trivial⟩ rfl⟩
 refine ex ?_;refine sq ?_;refine rl ?_;refine o1 ?_;refine nl ?_;refine rt ?_;exact dY (.inl rfl) rfl ((lJ (k:=k) (by omega) hk.2).symm)
theorem LD {M:Mx}{N:Nat}{rs:List Rf}{us:List Uf}(hOk:M.Ok N) (hJ:JOk rs us) (hl:rs.length=N){u:Uf}(hu:BF u.n∧BF u.p∧BF u.q) (hv:u.v<(N:Int)):aE true Tryz.prog 104 [] [.agg ((fA false u).map .t),.one (.t (.p false 110 [.p false 112 (jC M N rs us)]))] (aO (.one (tv (.bool ((List.range (max 0 u.v).toNat).any (M.oldJ N rs us u)))))):=by
 refine bF Tryz.func104 rfl Tryz.ntmps104 rfl aA rfl fun N9 w9 c0 h0=>?_
 have h9l:=cU M N;have h9r:=hJ.rl;have h9u:=hJ.ul;have h9n:=hOk.n;have h9b:=hOk.b;have h9w:=hOk.w
 refine WP.sub (oX (i:=1) rfl rfl) ?_;refine sq ?_;refine rl ?_;refine bx 0 ?_;refine o1 ?_;refine nl ?_;refine sq ?_;refine sq ?_;refine rl ?_;refine o1 ?_;refine ld ?_;refine o1 ?_
 refine WL.cast (t:=7) (u':=.int .i64 (((max 0 u.v).toNat:Nat):Int)) rfl (aI (by omega)) ?_
 refine o1 ?_;refine nl ?_;refine bl ?_
 refine lp (γ:=Nat) (fun k=>bV [(1,.one (.ef (.p false 112 (jC M N rs us)::[]) 0)),(2,.one (.pt 0 0)),(7,.one (tv (.int .i64 (((max 0 u.v).toNat:Nat):Int)))),(8,.one (tv (.int .i64 ((k:Nat):Int))))]) (fun k=>[(⟨46,0,(fA false u).map .t⟩:Ob)].map some) (fun k=>k≤(max 0 u.v).toNat∧∀j,j<k→M.oldJ N rs us u j=false) (fun k=>(max 0 u.v).toNat-k) 0 ⟨Nat.zero_le _,f0⟩ (aG h0 [0] _ _ (by decide) ⟨rfl,rfl,rfl,rfl,trivial⟩ ⟨aT rfl,rfl⟩) fun k hk=>?_
 refine sq ?_;refine rl ?_;refine o1 ?_;refine nl ?_;refine sq ?_;refine bS rfl (fun h1=>?_) (fun h1=>?_)
 ·refine sk ?_;refine sq ?_;refine bl ?_;refine sq ?_;refine rl ?_;refine o1 ?_;refine o1 ?_;refine nl ?_
  refine md (γ:=Unit) (fun _=>bV [(1,.one (.ef (.p false 112 (jC M N rs us)::[]) 0)),(2,.one (.pt 0 0)),(7,.one (tv (.int .i64 (((max 0 u.v).toNat:Nat):Int)))),(8,.one (tv (.int .i64 ((k:Nat):Int)))),(29,.one (tv (.bool (M.oldJ N rs us u k))))]) (fun _=>([⟨46,0,(fA false u).map .t⟩]:List Ob).map some) (fun _=>True) ?_ fun _ _=>?_
  ·refine rl ?_;refine o1 ?_;refine ld ?_;refine o1 ?_;refine ld ?_;refine o1 ?_;refine o1 ?_;refine WL.split (t:=16) rfl (fun h2=>?_) (fun h2=>?_)
   ·refine cR ([.p false 112 (jC M N rs us)]) rfl ?_;refine o1 ?_;refine o1 ?_;refine ld ?_
    refine ca (Rn hOk hJ (v:=((k:Nat):Int)) (y:=u.y)) Ro ⟨a1 rfl,a1 rfl,a1 rfl,rfl⟩ (.one (tv (.bool (M.win N ((k:Nat):Int) u.y)))) ?_;refine o1 ?_;refine o1 ?_
    refine WL.splitb (t:=23) rfl (fun h3=>?_) (fun h3=>?_)
    ·refine cR ([.p false 112 (jC M N rs us)]) rfl ?_;refine o1 ?_;refine o1 ?_;refine ld ?_
     refine ca (CP hOk hJ hl (v:=((k:Nat):Int)) (y:=u.y) (tP h3).1 (tP h3).2.1) CQ ⟨a1 rfl,a1 rfl,a1 rfl,rfl⟩ (.one (tv (.bool (!decide ((Mx.remJ rs us ((k:Nat):Int) u.y).num.sign≤0))))) ?_
     refine o1 ?_;refine nl ?_
     exact⟨(),trivial,aG h0 [0] _ _ (by decide) ⟨rfl,rfl,rfl,rfl,eD (by simp only[Mx.oldJ,decide_eq_true h1,decide_eq_true h2,h3] <;> first | rfl | simp),trivial⟩ ⟨aT rfl,rfl⟩⟩
    (iterate 5 refine aX ?_);refine o1 ?_;refine nl ?_
    exact⟨(),trivial,aG h0 [0] _ _ (by decide) ⟨rfl,rfl,rfl,rfl,eD (by simp only[Mx.oldJ,decide_eq_true h1,decide_eq_true h2,h3] <;> first | rfl | simp),trivial⟩ ⟨aT rfl,rfl⟩⟩
   (iterate 5 refine aX ?_);refine o1 ?_;refine o1 ?_;(iterate 5 refine aX ?_);refine o1 ?_;refine nl ?_
   exact⟨(),trivial,aG h0 [0] _ _ (by decide) ⟨rfl,rfl,rfl,rfl,eD (by simp only[Mx.oldJ,decide_eq_true h1,decide_eq_false h2] <;> first | rfl | simp),trivial⟩ ⟨aT rfl,rfl⟩⟩
  refine kJ rfl (fun h4=>?_) (fun h4=>?_)
  ·refine sq ?_;refine rl ?_;refine o1 ?_;refine nl ?_;refine rt ?_;exact dY (.inl rfl) rfl ((Ze (k:=k) (by omega) h4).symm)
  refine sk ?_;refine rl ?_;refine o1 ?_;refine WL.cast (t:=30) (u':=.int .i64 ((k+1:Nat):Int)) rfl (aI (by omega)) ?_
  refine o1 ?_;refine nl ?_;exact⟨k+1,by omega,⟨by omega,jQ hk.2 h4⟩,aG h0 [0] _ _ (by decide) ⟨rfl,rfl,rfl,rfl,trivial⟩ ⟨aT rfl,rfl⟩⟩
 refine ex ?_;refine sq ?_;refine rl ?_;refine o1 ?_;refine nl ?_;refine rt ?_;exact dY (.inl rfl) rfl ((FM (k:=k) (by omega) hk.2).symm)
theorem Zh {M:Mx}{N:Nat}{rs:List Rf}{us:List Uf}(hOk:M.Ok N) (hJ:JOk rs us) (hl:rs.length=N) (hv:∀u∈us,u.v<(N:Int)):aE true Tryz.prog 59 [] [.one (.t (.p false 112 (jC M N rs us)))] (aO (.one (tv (.bool (us.all fun u=> !(List.range (max 0 u.v).toNat).any (M.oldJ N rs us u)))))):=by
 refine bF Tryz.func59 rfl Tryz.ntmps59 rfl aA rfl fun N9 w9 c0 h0=>?_
 have h9l:=cU M N;have h9r:=hJ.rl;have h9u:=hJ.ul;have h9n:=hOk.n;have h9b:=hOk.b;have h9w:=hOk.w
 refine sq ?_;refine rl ?_;refine bx 0 ?_;refine o1 ?_;refine nl ?_;refine sq ?_;refine rl ?_;refine ld ?_;(iterate 3 refine o1 ?_);refine cR ([jL us]) rfl ?_
 refine WL.sub (wI (i:=1) (k:=0) (t:=110) (l:=[.p false 112 (jC M N rs us)]) rfl rfl rfl (.one .sl)) ?_;refine o1 ?_
 refine ca (Oi (fst:=[]) (caps:=[.p false 110 [.p false 112 (jC M N rs us)]]) PZ (fun u hu=>LD hOk hJ hl (hJ.u u hu) (hv u hu)) (by have:=hJ.ul;omega)) KW ⟨a1 rfl,a1 rfl,rfl⟩ (.one (tv (.bool (us.any fun u=>(List.range (max 0 u.v).toNat).any (M.oldJ N rs us u))))) ?_
 refine o1 ?_;refine o1 ?_;refine nl ?_;refine rt ?_;exact dY (.inl rfl) rfl (Zf us _)
theorem Ol:sP Tryz.prog 114 6:=⟨113,by kernel_rfl,.mk (by kernel_rfl) (by kernel_rfl)⟩
def Zj:Nat→Nat
 | 0=>54
 | 1=>55
 | 2=>56
 | 3=>57
 | 4=>58
 | _=>59
def pX (M:Mx) (N:Nat) (rs:List Rf) (us:List Uf):Nat→Bool
 | 0=>decide (rs.length=N)&&(List.range N).all (M.rowJ rs)
 | 1=>us.all (M.useJ N)
 | 2=>(List.range N).all (M.vinJ N rs us)
 | 3=>(List.range N).all (M.capJ rs us)
 | 4=>(List.range N).all fun v=>(List.range N).all (M.spentJ N rs us v)
 | _=>us.all fun u=> !(List.range (max 0 u.v).toNat).any (M.oldJ N rs us u)
section
variable {M:Mx}{N:Nat}{rs:List Rf}{us:List Uf}
theorem QA:∀{k:Nat},k<6→([.t (.f 54 [] []),.t (.f 55 [] []),.t (.f 56 [] []),.t (.f 57 [] []),.t (.f 58 [] []),.t (.f 59 [] [])]:List AV)[k]? =some (.t (.f (Zj k) [] []))
 | 0,_ | 1,_ | 2,_ | 3,_ | 4,_ | 5,_=>rfl
 | k+6,h=>by omega
theorem TN:∀{k:Nat},k<6→CallOk Tryz.prog (Zj k)
 | 0,_=>TO
 | 1,_=>TP
 | 2,_=>TQ
 | 3,_=>TR
 | 4,_=>TS
 | 5,_=>TT
 | k+6,h=>by omega
theorem LE (hOk:M.Ok N) (hJ:JOk rs us):∀{k:Nat},k<6→(∀j,j<k→pX M N rs us j=true)→aE true Tryz.prog (Zj k) [] [.one (.t (.p false 112 (jC M N rs us)))] (aO (.one (tv (.bool (pX M N rs us k))))):=by
 intro k hk h
 have hl:0<k→rs.length=N:=fun h0=>by
  have h1:=h 0 h0
  simp only[pX,Bool.and_eq_true,decide_eq_true_eq]at h1
  exact h1.1
 have hv:1<k→∀u∈us,u.v<(N:Int):=fun h0 u hu=>by
  have h1:=List.all_eq_true.1 (h 1 h0) u hu
  simp only[Mx.useJ,Bool.and_eq_true]at h1
  exact(tP h1.1).2.1
 match k with
 | 0=>exact KX hOk hJ
 | 1=>exact KV hOk hJ
 | 2=>exact Rq hOk hJ (hl (by omega))
 | 3=>exact LA hOk hJ (hl (by omega))
 | 4=>exact FP hOk hJ (hl (by omega))
 | 5=>exact Zh hOk hJ (hl (by omega)) (hv (by omega))
 | k+6=>omega
theorem QB (h:∀j,j<6→pX M N rs us j=true):M.judge N rs us=true:=by
 have h0:=h 0 (by omega);have h1:=h 1 (by omega);have h2:=h 2 (by omega);have h3:=h 3 (by omega);have h4:=h 4 (by omega);have h5:=h 5 (by omega)
 simp only[pX]at h0 h1 h2 h3 h4 h5
 rw[Bool.and_eq_true]at h0
 simp only[Mx.judge,h0.1,h0.2,h1,h2,h3,h4,h5,Bool.and_true]
theorem TU:∀{k:Nat},k<6→pX M N rs us k=false→M.judge N rs us=false
 | 0,_,h=>by
  simp only[pX]at h
  unfold Mx.judge
  rw[←Bool.and_assoc,h,Bool.false_and]
 | 1,_,h | 2,_,h | 3,_,h | 4,_,h | 5,_,h=>by
  simp only[pX]at h
  simp only[Mx.judge,h,Bool.false_and,Bool.and_false]
 | k+6,h,_=>by omega
end
theorem LF {c:Fr4}{bk fw:Int}{ys:List (Fr4×Fr4)}(hs:Sm c ys) (h:dD c bk fw ys=0):aE true Tryz.prog 35 [] [.agg ((c.tr false++[.v (.int .i64 bk),.v (.int .i64 fw)]:List Tr).map .t),.one (.t (fQ ys))] (aO (.one (tv (.int .i64 0)))):=by
 have h9:=Ht (bk:=bk) (fw:=fw) hs.c.1 (fun y hy=>⟨(hs.y y hy).1.1,(hs.y y hy).2.1⟩) hs.sz (by have:=hs.l;omega)
 rwa[h]at h9
theorem Zk {M:Mx}{N:Nat}{rs:List Rf}{us:List Uf}(hOk:M.Ok N) (hJ:JOk rs us) (hsm:Sm (Fr4.of M.cap) (yrs M N)) (hm:dD (Fr4.of M.cap) ((M.b:Nat):Int) ((M.w:Nat):Int) (yrs M N)=0):aE true Tryz.prog 24 [] [.agg (((Fr4.of M.cap).tr false++[.v (.int .i64 ((M.b:Nat):Int)),.v (.int .i64 ((M.w:Nat):Int))]:List Tr).map .t),.one (.t (fQ (yrs M N))),.agg (([fV rs,jL us]:List Tr).map .t)] (aO (.one (tv (.int .i64 (if M.judge N rs us=true then 0 else 270))))):=by
 refine bF Tryz.func24 rfl Tryz.ntmps24 rfl aA rfl fun N9 w9 c0 h0=>?_
 refine sq ?_;refine rl ?_;refine bx 0 ?_;refine bx 1 ?_;refine o1 ?_;refine nl ?_;refine sq ?_;refine sq ?_;refine rl ?_;refine ld ?_;refine o1 ?_
 refine ca (LF hsm hm) Qy ⟨aB rfl,a1 rfl,rfl⟩ (.one (tv (.int .i64 0))) ?_;refine o1 ?_;refine nl ?_;refine sq ?_;refine rl ?_;refine o1 ?_;refine o1 ?_;refine nl ?_
 refine bS rfl (fun h1=>?_) (fun h1=>?_)
 ·exact absurd rfl h1
 refine sk ?_;refine sq ?_;refine rl ?_;refine ld ?_;refine ld ?_;refine o1 ?_;refine o1 ?_;refine bx 2 ?_;refine o1 ?_
 refine WL.sub (wI (i:=8) (k:=2) (t:=112) (l:=(jC M N rs us)) rfl rfl rfl (.one .sl)) ?_;refine nl ?_;refine sq ?_;refine sq ?_;refine rl ?_;refine bA Ol ?_;refine o1 ?_
 refine nl ?_;refine bl ?_
 refine lp (γ:=Nat) (fun k=>bV [(8,.one (.t (.p false 112 (jC M N rs us)))),(22,.agg [.t (.f 54 [] []),.t (.f 55 [] []),.t (.f 56 [] []),.t (.f 57 [] []),.t (.f 58 [] []),.t (.f 59 [] [])]),(23,.one (tv (.int .i64 ((k:Nat):Int))))]) (fun k=>([]:List Ob).map some) (fun k=>k≤6∧∀j,j<k→pX M N rs us j=true) (fun k=>6-k) 0 ⟨Nat.zero_le _,f0⟩ (aG h0 [] _ _ (by decide) ⟨rfl,rfl,rfl,trivial⟩ rfl) fun k hk=>?_
 refine sq ?_;refine rl ?_;refine o1 ?_;refine nl ?_;refine sq ?_;refine bS rfl (fun h2=>?_) (fun h2=>?_)
 ·refine sk ?_;refine sq ?_;refine bl ?_;refine sq ?_;refine rl ?_;have hk9:k<6:=by omega
  refine JT Ol hk9 (QA hk9) ?_;refine o1 ?_;refine nl ?_;refine sq ?_;refine rl ?_;refine o1 ?_;refine o1 ?_
  refine ce 0 [.one (.t (.p false 112 (jC M N rs us)))] rfl (LE hOk hJ hk9 hk.2) (TN hk9) ⟨rfl,rfl⟩ ?_;refine WL.splitb (t:=28) rfl (fun h3=>?_) (fun h3=>?_)
  ·refine o1 ?_;refine nl ?_;refine jN rfl ?_;refine sk ?_;refine rl ?_;refine o1 ?_;refine WL.cast (t:=30) (u':=.int .i64 ((k+1:Nat):Int)) rfl (aI (by omega)) ?_
   refine o1 ?_;refine nl ?_;exact⟨k+1,by omega,⟨by omega,jQ hk.2 h3⟩,aG h0 [] _ _ (by decide) ⟨rfl,rfl,rfl,trivial⟩ rfl⟩
  refine o1 ?_;refine nl ?_;refine fY rfl ?_;refine sq ?_;refine rl ?_;refine o1 ?_;refine nl ?_;refine rt ?_
  exact en (.inl rfl) rfl (aP (bL _)) (by decide) (fun _=>trivial) (congrArg (fun z=>FV.one (tv (.int .i64 z))) (by rw[TU (by omega) h3];rfl))
 refine ex ?_;refine sq ?_;refine rl ?_;refine o1 ?_;refine nl ?_;refine rt ?_
 exact en (.inl rfl) rfl (aP (bL _)) (by decide) (fun _=>trivial) (congrArg (fun z=>FV.one (tv (.int .i64 z))) (by rw[QB fun j hj=>hk.2 j (by omega)];rfl))
theorem Zl {c:Fr4}{bk fw:Int}{ys:List (Fr4×Fr4)}{rs:List Rf}{us:List Uf}(hs:Sm c ys) (hm:¬dD c bk fw ys=0):aE true Tryz.prog 24 [] [.agg ((c.tr false++[.v (.int .i64 bk),.v (.int .i64 fw)]:List Tr).map .t),.one (.t (fQ ys)),.agg (([fV rs,jL us]:List Tr).map .t)] (aO (.one (tv (.int .i64 (dD c bk fw ys))))):=by
 refine bF Tryz.func24 rfl Tryz.ntmps24 rfl aA rfl fun N9 w9 c0 h0=>?_
 refine sq ?_;refine rl ?_;refine bx 0 ?_;refine bx 1 ?_;refine o1 ?_;refine nl ?_;refine sq ?_;refine sq ?_;refine rl ?_;refine ld ?_;refine o1 ?_
 refine ca (Ht (bk:=bk) (fw:=fw) hs.c.1 (fun y hy=>⟨(hs.y y hy).1.1,(hs.y y hy).2.1⟩) hs.sz (by have:=hs.l;omega)) Qy ⟨aB rfl,a1 rfl,rfl⟩ (.one (tv (.int .i64 (dD c bk fw ys)))) ?_
 refine o1 ?_;refine nl ?_;refine sq ?_;refine rl ?_;refine o1 ?_;refine o1 ?_;refine nl ?_;refine bS rfl (fun h1=>?_) (fun h1=>?_)
 ·refine sq ?_;refine rl ?_;refine o1 ?_;refine o1 ?_;refine nl ?_;refine rt ?_
  exact en (.inl rfl) rfl (aP (bL _)) (by decide) (fun _=>trivial) (congrArg (fun z=>FV.one (tv (.int .i64 z))) (rfl))
 exact absurd hm h1
def pB (c:Fr4) (bk fw:Int) (ys:List (Fr4×Fr4)) (rs:List Rf) (us:List Uf):Int:=if dD c bk fw ys=0 then(if(oG c bk fw ys).judge ys.length rs us=true then 0 else 270)else dD c bk fw ys
theorem FQ {c:Fr4}{bk fw:Int}{ys:List (Fr4×Fr4)}{rs:List Rf}{us:List Uf}(hs:Sm c ys) (hJ:JOk rs us):aE true Tryz.prog 24 [] [.agg ((c.tr false++[.v (.int .i64 bk),.v (.int .i64 fw)]:List Tr).map .t),.one (.t (fQ ys)),.agg (([fV rs,jL us]:List Tr).map .t)] (aO (.one (tv (.int .i64 (pB c bk fw ys rs us))))):=by
 by_cases h:dD c bk fw ys=0
 ·obtain⟨h1,e1,e2,e3,e4⟩:=Qz hs h
  have h9:=Zk (rs:=rs) (us:=us) h1 hJ (by rw[←e1,←e4];exact hs) (by rw[←e1,←e2,←e3,←e4];exact h)
  rw[←e1,←e2,←e3,←e4]at h9
  unfold pB
  rw[if_pos h]
  exact h9
 unfold pB
 rw[if_neg h]
 exact Zl hs h
end Go.Proofs.YthoemjjmkgmnjaaGreat
