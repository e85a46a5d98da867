/- Part 13 of a proof: A5 to U7. -/
import Derived.Test.YtcaakamelngceaaGreatDoorM9
import Derived.Test.YtcaakamelngceaaGreatDoorM10
import Derived.Test.YtcaakamelngceaaGreatDoorM12
import Derived.Test.YtcaakamelngceaaGreatDoorM5
import Derived.Test.YtcaakamelngceaaGreatDoorM11
import Derived.Test.YtcaakamelngceaaGreatDoorM8
set_option maxRecDepth 100000
set_option linter.unusedVariables false
set_option linter.unusedSimpArgs false
namespace Go.Proofs.YtcaakamelngceaaGreatDoor
open Go Go.RowKit
theorem AE {a b:Zi}{k k':Int}(ha:Zn a k) (hb:Zn b k'):aD true Tryz.prog 134 [] [gF a,gF b] (aL (.one (tv (.bool (decide (k=k')))))):=by
 refine bE Tryz.func134 rfl Tryz.ntmps134 rfl aA rfl fun N w c0 h0=>?_
 refine sq ?_;refine rl ?_;refine bx 0 ?_;refine bx 1 ?_;refine o1 ?_;refine nl ?_;refine sq ?_;refine rl ?_;refine ld ?_;refine ld ?_
 refine ca (Pw ha hb) FF ⟨aB rfl,aB rfl,rfl⟩ (.one (tv (.int .i64 ((k)-(k')).sign))) ?_;refine o1 ?_;refine o1 ?_;refine nl ?_;refine rt ?_
 exact en (.inl rfl) rfl (aR (aN _)) (by decide) (fun _=>trivial) (congrArg (fun z=>FV.one (tv (.bool z))) (Tc _ _))
theorem Fa {a:Fr4}{p:Rat}(ha:Qn a p):aD true Tryz.prog 82 [] [qF a] (aL (.one (tv (.bool (cU a.s a.x a.t a.y))))):=by
 refine bE Tryz.func82 rfl Tryz.ntmps82 rfl aA rfl fun N w c0 h0=>?_
 have hzl:=(Di ha).len
 have hzd:=(qS ha).len
 refine sq ?_;refine rl ?_;refine bx 0 ?_;refine o1 ?_;refine nl ?_;refine sq ?_;refine rl ?_;refine o1 ?_;refine ld ?_
 refine ca (vS (Di ha)) Mm ⟨aB rfl,rfl⟩ (.one (tv (.bool (cE a.s a.x)))) ?_;refine o1 ?_;refine WL.splitb (t:=6) rfl (fun h1=>?_) (fun h1=>?_)
 ·refine o1 ?_;refine ld ?_;refine ca (vS (qS ha)) Mm ⟨aB rfl,rfl⟩ (.one (tv (.bool (cE a.t a.y)))) ?_;refine o1 ?_;refine o1 ?_
  refine WL.splitb (t:=11) rfl (fun h2=>?_) (fun h2=>?_)
  ·refine o1 ?_;refine ld ?_;refine ca (lJ (qS ha)) vT ⟨aB rfl,rfl⟩ (.one (tv (.int .i64 ((cT a.t a.y)).sign))) ?_;(iterate 3 refine o1 ?_)
   refine WL.split (t:=17) rfl (fun h3=>?_) (fun h3=>?_)
   ·refine o1 ?_;refine ld ?_;refine o1 ?_;refine ld ?_;have s3:0<cT a.t a.y:=Int.sign_pos_iff.1 h3
    have hn4:=yX (k:=(cT a.s a.x)) (k':=(cT a.t a.y)) (by omega)
    refine ca (Fb (Di ha) (qS ha)) Mn ⟨aB rfl,aB rfl,rfl⟩ (kF (((Int.gcd (cT a.s a.x) (cT a.t a.y):Nat):Int))) ?_;have hn5:=lZ (n:=(1:Int)) (by omega) (by omega)
    refine ca (uD (n:=(1:Int)) (by omega) (by omega)) zN ⟨a1 rfl,rfl⟩ (kF ((1:Int))) ?_
    refine ca (AE (Zn.of (k:=((Int.gcd (cT a.s a.x) (cT a.t a.y):Nat):Int)) (by omega)) (Zn.of (k:=(1:Int)) (by omega))) KL ⟨aB rfl,aB rfl,rfl⟩ (.one (tv (.bool (decide ((((Int.gcd (cT a.s a.x) (cT a.t a.y):Nat):Int))=((1:Int))))))) ?_
    refine o1 ?_;refine o1 ?_;refine nl ?_;refine rt ?_
    exact en (.inl rfl) rfl (aR (aN _)) (by decide) (fun _=>trivial) (congrArg (fun z=>FV.one (tv (.bool z))) (by simp[cU,h1,h2,s3,In]))
   (iterate 7 refine cL ?_);refine o1 ?_;refine o1 ?_;refine nl ?_;refine rt ?_;have s3:¬(0<cT a.t a.y):=fun h=>h3 (Int.sign_pos_iff.2 h)
   exact en (.inl rfl) rfl (aR (aN _)) (by decide) (fun _=>trivial) (congrArg (fun z=>FV.one (tv (.bool z))) (by simp[cU,h1,h2,s3,In]))
  (iterate 4 refine cL ?_);refine o1 ?_;refine o1 ?_;(iterate 7 refine cL ?_);refine o1 ?_;refine o1 ?_;refine nl ?_;refine rt ?_
  exact en (.inl rfl) rfl (aR (aN _)) (by decide) (fun _=>trivial) (congrArg (fun z=>FV.one (tv (.bool z))) (by simp[cU,h1,h2]))
 (iterate 3 refine cL ?_);refine o1 ?_;refine o1 ?_;(iterate 4 refine cL ?_);refine o1 ?_;refine o1 ?_;(iterate 7 refine cL ?_);refine o1 ?_;refine o1 ?_;refine nl ?_;refine rt ?_
 exact en (.inl rfl) rfl (aR (aN _)) (by decide) (fun _=>trivial) (congrArg (fun z=>FV.one (tv (.bool z))) (by simp[cU,h1]))
theorem fT:aD false Tryz.prog 34 [] [] (aL (qF (.of 0))):=by
 refine bE Tryz.func34 rfl Tryz.ntmps34 rfl aA rfl fun N w c0 h0=>?_
 refine sq ?_;refine rl ?_;refine al 0 ?_;refine nl ?_;refine sq ?_;refine rl ?_;have hn1:=lZ (n:=(0:Int)) (by omega) (by omega)
 refine ca (uD (n:=(0:Int)) (by omega) (by omega)) zN ⟨a1 rfl,rfl⟩ (kF ((0:Int))) ?_
 have hn2:=lZ (n:=(1:Int)) (by omega) (by omega)
 refine ca (uD (n:=(1:Int)) (by omega) (by omega)) zN ⟨a1 rfl,rfl⟩ (kF ((1:Int))) ?_
 refine o1 ?_;refine st ?_;refine nl ?_;refine rt ?_
 exact en (.inl rfl) rfl (aR (.agg (.cons (.id rfl) (.cons (.id rfl) (.cons (.id rfl) (.cons (.id rfl) .nil)))))) (by decide) (fun h=>by cases h) (uA (q:=0) rfl rfl)
theorem jP {n:Int}(h1:-9223372036854775808≤n) (h2:n≤9223372036854775807):aD false Tryz.prog 36 [] [.one (tv (.int .i64 n))] (aL (qF (.of (n:Rat)))):=by
 refine bE Tryz.func36 rfl Tryz.ntmps36 rfl aA rfl fun N w c0 h0=>?_
 refine sq ?_;refine rl ?_;refine al 0 ?_;refine nl ?_;refine sq ?_;refine rl ?_;refine o1 ?_;have hn1:=lZ (n:=n) (by omega) (by omega)
 refine ca (uD (n:=n) (by omega) (by omega)) zN ⟨a1 rfl,rfl⟩ (kF (n)) ?_
 have hn2:=lZ (n:=(1:Int)) (by omega) (by omega)
 refine ca (uD (n:=(1:Int)) (by omega) (by omega)) zN ⟨a1 rfl,rfl⟩ (kF ((1:Int))) ?_
 refine o1 ?_;refine st ?_;refine nl ?_;refine rt ?_
 exact en (.inl rfl) rfl (aR (.agg (.cons (.id rfl) (.cons (.id rfl) (.cons (.id rfl) (.cons (.id rfl) .nil)))))) (by decide) (fun h=>by cases h) (uA (q:=(n:Rat)) (Rat.num_intCast n) (by rw[Rat.den_intCast];rfl))
theorem iJ {a:Fr4}{p:Rat}(ha:Qn a p):aD false Tryz.prog 44 [] [qF a] (aL (qF (.of p))):=by
 refine bE Tryz.func44 rfl Tryz.ntmps44 rfl aA rfl fun N w c0 h0=>?_
 refine sq ?_;refine rl ?_;refine bx 0 ?_;refine al 1 ?_;refine nl ?_;refine sq ?_;refine sq ?_;refine rl ?_;refine ld ?_
 refine ca (Fa ha) FG ⟨aB rfl,rfl⟩ (.one (tv (.bool (cU a.s a.x a.t a.y)))) ?_;refine WL.splitb (t:=4) rfl (fun h1=>?_) (fun h1=>?_)
 ·refine o1 ?_;refine nl ?_;refine fY rfl ?_;refine sk ?_;refine sq ?_;refine rl ?_;refine ld ?_;refine st ?_;refine nl ?_;refine rt ?_
  exact en (.inl rfl) rfl (aR (.agg (.cons (.id rfl) (.cons (.id rfl) (.cons (.id rfl) (.cons (.id rfl) .nil)))))) (by decide) (fun h=>by cases h) (by rw[ha.right h1];rfl)
 refine o1 ?_;refine nl ?_;refine gJ rfl ?_;refine sq ?_;refine rl ?_;refine ca (fT) mN rfl (qF (.of 0)) ?_;refine st ?_;refine nl ?_;refine rt ?_
 exact en (.inl rfl) rfl (aR (.agg (.cons (.id rfl) (.cons (.id rfl) (.cons (.id rfl) (.cons (.id rfl) .nil)))))) (by decide) (fun h=>by cases h) (by rw[ha.wrong h1];rfl)
theorem oT {a b:Zi}{k k':Int}(ha:Zn a k) (hb:Zn b k') (h0:k'≠0):aD false Tryz.prog 48 [] [gF a,gF b] (aL (.tup [kF (k.fdiv k'),kF (k.fmod k'),.one (tv (.int .i64 0))])):=by
 have h:=Px ha hb
 rwa[if_neg h0,if_neg h0,if_neg h0]at h
theorem iK {a b:Zi}{k k':Int}(ha:Zn a k) (hb:Zn b k'):aD false Tryz.prog 80 [] [gF a,gF b] (aL (.tup [qF (.of (Rat.divInt k k')),.one (tv (.int .i64 (if k'=0 then 20 else 0)))])):=by
 refine bE Tryz.func80 rfl Tryz.ntmps80 rfl aA rfl fun N w c0 h0=>?_
 have hkl:=ha.len
 have hkl':=hb.len
 refine sq ?_;refine rl ?_;refine bx 0 ?_;refine bx 1 ?_;refine al 2 ?_;refine o1 ?_;refine nl ?_;refine sq ?_;refine sq ?_;refine rl ?_;refine ld ?_
 refine ca (lJ hb) vT ⟨aB rfl,rfl⟩ (.one (tv (.int .i64 (k').sign))) ?_;refine o1 ?_;refine nl ?_;refine bQ rfl (fun h1=>?_) (fun h1=>?_)
 ·refine sq ?_;refine rl ?_;refine ca (fT) mN rfl (qF (.of 0)) ?_;refine st ?_;refine o1 ?_;refine nl ?_;refine rt ?_;have hk0:k'=0:=Int.sign_eq_zero_iff_zero.1 h1
  have hd0:Rat.divInt k k'=0:=by rw[hk0];simp
  exact en (.inl rfl) rfl (cV (.cons (.agg (.cons (.id rfl) (.cons (.id rfl) (.cons (.id rfl) (.cons (.id rfl) .nil))))) (.cons (aN _) .nil))) (by decide) (fun h=>by cases h) (by rw[if_pos hk0,hd0];rfl)
 refine sk ?_;refine sq ?_;refine sq ?_;have hk0:k'≠0:=fun h9=>h1 (by rw[h9];rfl)
 refine rl ?_;refine ld ?_;refine ca (lJ hb) vT ⟨aB rfl,rfl⟩ (.one (tv (.int .i64 (k').sign))) ?_;refine o1 ?_;refine nl ?_;refine bQ rfl (fun h2=>?_) (fun h2=>?_)
 ·refine sq ?_;refine rl ?_;refine ld ?_;have hn3:=jN (k)
  refine ca (xO ha) Mo ⟨aB rfl,rfl⟩ (kF (-k)) ?_;refine st ?_;refine nl ?_;refine rl ?_;refine ld ?_;have hn4:=jN (k')
  refine ca (xO hb) Mo ⟨aB rfl,rfl⟩ (kF (-k')) ?_;refine st ?_;refine nl ?_;refine sq ?_;have hkn:k'<0:=Int.sign_neg_iff.1 h2
  refine rl ?_;refine ld ?_;refine ld ?_;have hn5:=yX (k:=-k) (k':=-k') (by omega)
  refine ca (Fb (Zn.of (k:=-k) (by omega)) (Zn.of (k:=-k') (by omega))) Mn ⟨aB rfl,aB rfl,rfl⟩ (kF (((Int.gcd (-k) (-k'):Nat):Int))) ?_
  refine al 3 ?_;refine st ?_;refine nl ?_;refine sq ?_;refine rl ?_;refine ld ?_;refine ld ?_
  refine ca (oT (Zn.of (k:=-k) (by omega)) (Zn.of (k:=((Int.gcd (-k) (-k'):Nat):Int)) (by omega)) (wW (by omega))) Mp ⟨aB rfl,aB rfl,rfl⟩ (.tup [kF ((-k).fdiv ((Int.gcd (-k) (-k'):Nat):Int)),kF ((-k).fmod ((Int.gcd (-k) (-k'):Nat):Int)),.one (tv (.int .i64 0))]) ?_
  (iterate 4 refine o1 ?_);refine al 4 ?_;refine al 5 ?_;refine st ?_;refine st ?_;refine o1 ?_;refine nl ?_;refine sq ?_;refine rl ?_;refine ld ?_;refine ld ?_
  refine ca (oT (Zn.of (k:=-k') (by omega)) (Zn.of (k:=((Int.gcd (-k) (-k'):Nat):Int)) (by omega)) (wW (by omega))) Mp ⟨aB rfl,aB rfl,rfl⟩ (.tup [kF ((-k').fdiv ((Int.gcd (-k) (-k'):Nat):Int)),kF ((-k').fmod ((Int.gcd (-k) (-k'):Nat):Int)),.one (tv (.int .i64 0))]) ?_
  (iterate 4 refine o1 ?_);refine al 6 ?_;refine al 7 ?_;refine st ?_;refine st ?_;refine o1 ?_;refine nl ?_;refine sq ?_;refine rl ?_;refine ld ?_;refine ld ?_;refine o1 ?_
  refine st ?_;refine o1 ?_;refine nl ?_;refine rt ?_;obtain⟨hp9,hn9⟩:=Dj (a:=k) hk0
  obtain⟨e1,e2⟩:=hn9 hkn
  exact en (.inl rfl) rfl (cV (.cons (.agg (.cons (.id rfl) (.cons (.id rfl) (.cons (.id rfl) (.cons (.id rfl) .nil))))) (.cons (aN _) .nil))) (by decide) (fun h=>by cases h) (by rw[if_neg hk0];exact congrArg (fun f=>FV.tup [f,.one (tv (.int .i64 0))]) (uA e1 e2))
 refine sk ?_;refine sq ?_;have hkp:0<k':=by have h9:=mt Int.sign_neg_iff.2 h2;omega
 refine rl ?_;refine ld ?_;refine ld ?_;have hn6:=yX (k:=k) (k':=k') (by omega)
 refine ca (Fb ha hb) Mn ⟨aB rfl,aB rfl,rfl⟩ (kF (((Int.gcd k k':Nat):Int))) ?_;refine al 3 ?_;refine st ?_;refine nl ?_;refine sq ?_;refine rl ?_;refine ld ?_;refine ld ?_
 refine ca (oT ha (Zn.of (k:=((Int.gcd k k':Nat):Int)) (by omega)) (wW (by omega))) Mp ⟨aB rfl,aB rfl,rfl⟩ (.tup [kF ((k).fdiv ((Int.gcd k k':Nat):Int)),kF ((k).fmod ((Int.gcd k k':Nat):Int)),.one (tv (.int .i64 0))]) ?_
 (iterate 4 refine o1 ?_);refine al 4 ?_;refine al 5 ?_;refine st ?_;refine st ?_;refine o1 ?_;refine nl ?_;refine sq ?_;refine rl ?_;refine ld ?_;refine ld ?_
 refine ca (oT hb (Zn.of (k:=((Int.gcd k k':Nat):Int)) (by omega)) (wW (by omega))) Mp ⟨aB rfl,aB rfl,rfl⟩ (.tup [kF ((k').fdiv ((Int.gcd k k':Nat):Int)),kF ((k').fmod ((Int.gcd k k':Nat):Int)),.one (tv (.int .i64 0))]) ?_
 (iterate 4 refine o1 ?_);refine al 6 ?_;refine al 7 ?_;refine st ?_;refine st ?_;refine o1 ?_;refine nl ?_;refine sq ?_;refine rl ?_;refine ld ?_;refine ld ?_;refine o1 ?_
 refine st ?_;refine o1 ?_;refine nl ?_;refine rt ?_;obtain⟨hp9,hn9⟩:=Dj (a:=k) hk0
 obtain⟨e1,e2⟩:=hp9 hkp
 exact en (.inl rfl) rfl (cV (.cons (.agg (.cons (.id rfl) (.cons (.id rfl) (.cons (.id rfl) (.cons (.id rfl) .nil))))) (.cons (aN _) .nil))) (by decide) (fun h=>by cases h) (by rw[if_neg hk0];exact congrArg (fun f=>FV.tup [f,.one (tv (.int .i64 0))]) (uA e1 e2))
theorem Fc {a:Fr4}{p:Rat}(ha:Qn a p):aD false Tryz.prog 47 [] [qF a] (aL (qF (.of (-p)))):=by
 refine bE Tryz.func47 rfl Tryz.ntmps47 rfl aA rfl fun N w c0 h0=>?_
 refine sq ?_;refine rl ?_;refine bx 0 ?_;refine al 1 ?_;refine nl ?_;refine sq ?_;refine rl ?_;refine ld ?_;refine ca (iJ ha) sZ ⟨aB rfl,rfl⟩ (qF (.of p)) ?_;refine st ?_
 refine nl ?_;refine sq ?_;refine rd [0,1] (fun i=>[6].contains i) mixed ?_
 refine dv 0 ?_;refine aX 1 ?_;refine dv 3 ?_;refine aX 4 ?_;refine aJ 2 rfl (xO (eB ha.sz)) Mo ⟨aB rfl,rfl⟩ (kF (-p.num)) ?_;refine df 5 ?_;refine dst 6 ?_;refine aS ?_
 refine rt ?_
 exact en (.inl rfl) rfl (aR (.agg (.cons (.id rfl) (.cons (.id rfl) (.cons (.id rfl) (.cons (.id rfl) .nil)))))) (by decide) (fun h=>by cases h) (by unfold qF Fr4.of;rw[Rat.neg_num,Rat.neg_den];rfl)
theorem Py {a b:Fr4}{p q:Rat}(ha:Qn a p) (hb:Qn b q) (hs:Sz 17179869184 p) (hs':Sz 17179869184 q):aD false Tryz.prog 130 [] [qF a,qF b] (aL (qF (.of (p+q)))):=by
 refine bE Tryz.func130 rfl Tryz.ntmps130 rfl aA rfl fun N w c0 h0=>?_
 have hs1:=hs.1
 have hs2:(dg 4294967296 ((p.den:Int)).natAbs).length≤17179869184:=hs.2
 have hs3:=hs'.1
 have hs4:(dg 4294967296 ((q.den:Int)).natAbs).length≤17179869184:=hs'.2
 refine sq ?_;refine rl ?_;refine bx 0 ?_;refine bx 1 ?_;refine al 2 ?_;refine nl ?_;refine sq ?_;refine rl ?_;refine ld ?_;refine ca (iJ ha) sZ ⟨aB rfl,rfl⟩ (qF (.of p)) ?_
 refine st ?_;refine nl ?_;refine sq ?_;refine rl ?_;refine ld ?_;refine ca (iJ hb) sZ ⟨aB rfl,rfl⟩ (qF (.of q)) ?_;refine st ?_;refine nl ?_
 refine md (γ:=Unit) (fun _=>cK [(4,.one (.pt 0 0)),(5,.one (.pt 1 0))]) (fun _=>([⟨33,0,[tv (.bool false),tv (.slice none 0 0),tv (.bool false),tv (.slice none 0 0)]⟩,⟨33,0,((Fr4.of (Rat.divInt (p.num*(q.den:Int)+q.num*(p.den:Int)) ((p.den:Int)*(q.den:Int)))).tr false).map .t⟩]:List Ob).map some) (fun _=>True) ?_ fun _ _=>?_
 ·refine rd [0,1,2] (fun i=>[22].contains i) mixed ?_
  refine dv 0 ?_;refine aX 1 ?_;refine dv 2 ?_;refine aX 3 ?_;refine dv 5 ?_;refine aX 6 ?_;refine dv 7 ?_;refine aX 8 ?_;refine dv 11 ?_;refine aX 12 ?_;refine dv 13 ?_
  refine aX 14 ?_;refine WO.two (i:=4) (j:=20) (by kernel_rfl) ?_ ?_
  ·have hn1:=cD (p.num) ((q.den:Int))
   refine cZ 4 rfl (eX (eB hs) (cR hs')) iL ⟨aB rfl,aB rfl,rfl⟩ (kF (p.num*(q.den:Int))) ?_;refine WO.two (i:=9) (j:=20) (by kernel_rfl) ?_ ?_
   ·have hn2:=cD (q.num) ((p.den:Int))
    refine cZ 9 rfl (eX (eB hs') (cR hs)) iL ⟨aB rfl,aB rfl,rfl⟩ (kF (q.num*(p.den:Int))) ?_;refine WO.two (i:=10) (j:=20) (by kernel_rfl) ?_ ?_
    ·have hn3:=gH (p.num*(q.den:Int)) (q.num*(p.den:Int))
     refine cZ 10 rfl (pX (Zn.of (k:=p.num*(q.den:Int)) (by omega)) (Zn.of (k:=q.num*(p.den:Int)) (by omega))) zO ⟨aB rfl,aB rfl,rfl⟩ (kF (p.num*(q.den:Int)+q.num*(p.den:Int))) ?_
     refine WO.two (i:=15) (j:=20) (by kernel_rfl) ?_ ?_
     ·have hn4:=cD ((p.den:Int)) ((q.den:Int))
      refine cZ 15 rfl (eX (cR hs) (cR hs')) iL ⟨aB rfl,aB rfl,rfl⟩ (kF ((p.den:Int)*(q.den:Int))) ?_;refine WO.two (i:=16) (j:=20) (by kernel_rfl) ?_ ?_
      ·refine cZ 16 rfl (iK (Zn.of (k:=p.num*(q.den:Int)+q.num*(p.den:Int)) (by omega)) (Zn.of (k:=(p.den:Int)*(q.den:Int)) (by omega))) nW ⟨aB rfl,aB rfl,rfl⟩ (.tup [qF (.of (Rat.divInt (p.num*(q.den:Int)+q.num*(p.den:Int)) ((p.den:Int)*(q.den:Int)))),.one (tv (.int .i64 (if((p.den:Int)*(q.den:Int))=0 then 20 else 0)))]) ?_
       refine df 17 ?_;refine df 18 ?_;refine df 19 ?_;refine fA (key:=3) 20 (by kernel_rfl) rfl rfl aA rfl ⟨rfl,rfl,rfl,trivial⟩ ?_
       refine aV 21 (by kernel_rfl) rfl rfl aA rfl rfl rfl rfl ⟨rfl,rfl,rfl,trivial⟩ ?_
       refine dR 22 (by kernel_rfl) rfl rfl aA rfl (by trivial) ?_ (fun h=>by first | rfl | cases h)
       refine aS ?_;exact⟨(),trivial,aQ h0 [2,3] _ _ (by decide) ⟨rfl,rfl,trivial⟩ ⟨oe rfl rfl,oe rfl rfl,rfl⟩⟩
      refine bR (key:=3) 20 rfl rfl aA rfl ⟨rfl,rfl,rfl,trivial⟩ ?_
      refine aJ 16 rfl (iK (Zn.of (k:=p.num*(q.den:Int)+q.num*(p.den:Int)) (by omega)) (Zn.of (k:=(p.den:Int)*(q.den:Int)) (by omega))) nW ⟨aB rfl,aB rfl,rfl⟩ (.tup [qF (.of (Rat.divInt (p.num*(q.den:Int)+q.num*(p.den:Int)) ((p.den:Int)*(q.den:Int)))),.one (tv (.int .i64 (if((p.den:Int)*(q.den:Int))=0 then 20 else 0)))]) ?_
      refine df 17 ?_;refine df 18 ?_;refine df 19 ?_;refine aV 21 (by kernel_rfl) rfl rfl aA rfl rfl rfl rfl ⟨rfl,rfl,rfl,trivial⟩ ?_
      refine dR 22 (by kernel_rfl) rfl rfl aA rfl (by trivial) ?_ (fun h=>by first | rfl | cases h)
      refine aS ?_;exact⟨(),trivial,aQ h0 [2,3] _ _ (by decide) ⟨rfl,rfl,trivial⟩ ⟨oe rfl rfl,oe rfl rfl,rfl⟩⟩
     refine bR (key:=3) 20 rfl rfl aA rfl ⟨rfl,rfl,rfl,trivial⟩ ?_;have hn5:=cD ((p.den:Int)) ((q.den:Int))
     refine aJ 15 rfl (eX (cR hs) (cR hs')) iL ⟨aB rfl,aB rfl,rfl⟩ (kF ((p.den:Int)*(q.den:Int))) ?_
     refine aJ 16 rfl (iK (Zn.of (k:=p.num*(q.den:Int)+q.num*(p.den:Int)) (by omega)) (Zn.of (k:=(p.den:Int)*(q.den:Int)) (by omega))) nW ⟨aB rfl,aB rfl,rfl⟩ (.tup [qF (.of (Rat.divInt (p.num*(q.den:Int)+q.num*(p.den:Int)) ((p.den:Int)*(q.den:Int)))),.one (tv (.int .i64 (if((p.den:Int)*(q.den:Int))=0 then 20 else 0)))]) ?_
     refine df 17 ?_;refine df 18 ?_;refine df 19 ?_;refine aV 21 (by kernel_rfl) rfl rfl aA rfl rfl rfl rfl ⟨rfl,rfl,rfl,trivial⟩ ?_
     refine dR 22 (by kernel_rfl) rfl rfl aA rfl (by trivial) ?_ (fun h=>by first | rfl | cases h)
     refine aS ?_;exact⟨(),trivial,aQ h0 [2,3] _ _ (by decide) ⟨rfl,rfl,trivial⟩ ⟨oe rfl rfl,oe rfl rfl,rfl⟩⟩
    refine bR (key:=3) 20 rfl rfl aA rfl ⟨rfl,rfl,rfl,trivial⟩ ?_;have hn6:=gH (p.num*(q.den:Int)) (q.num*(p.den:Int))
    refine aJ 10 rfl (pX (Zn.of (k:=p.num*(q.den:Int)) (by omega)) (Zn.of (k:=q.num*(p.den:Int)) (by omega))) zO ⟨aB rfl,aB rfl,rfl⟩ (kF (p.num*(q.den:Int)+q.num*(p.den:Int))) ?_
    have hn7:=cD ((p.den:Int)) ((q.den:Int))
    refine aJ 15 rfl (eX (cR hs) (cR hs')) iL ⟨aB rfl,aB rfl,rfl⟩ (kF ((p.den:Int)*(q.den:Int))) ?_
    refine aJ 16 rfl (iK (Zn.of (k:=p.num*(q.den:Int)+q.num*(p.den:Int)) (by omega)) (Zn.of (k:=(p.den:Int)*(q.den:Int)) (by omega))) nW ⟨aB rfl,aB rfl,rfl⟩ (.tup [qF (.of (Rat.divInt (p.num*(q.den:Int)+q.num*(p.den:Int)) ((p.den:Int)*(q.den:Int)))),.one (tv (.int .i64 (if((p.den:Int)*(q.den:Int))=0 then 20 else 0)))]) ?_
    refine df 17 ?_;refine df 18 ?_;refine df 19 ?_;refine aV 21 (by kernel_rfl) rfl rfl aA rfl rfl rfl rfl ⟨rfl,rfl,rfl,trivial⟩ ?_
    refine dR 22 (by kernel_rfl) rfl rfl aA rfl (by trivial) ?_ (fun h=>by first | rfl | cases h)
    refine aS ?_;exact⟨(),trivial,aQ h0 [2,3] _ _ (by decide) ⟨rfl,rfl,trivial⟩ ⟨oe rfl rfl,oe rfl rfl,rfl⟩⟩
   refine bR (key:=3) 20 rfl rfl aA rfl ⟨rfl,rfl,rfl,trivial⟩ ?_;have hn8:=cD (q.num) ((p.den:Int))
   refine aJ 9 rfl (eX (eB hs') (cR hs)) iL ⟨aB rfl,aB rfl,rfl⟩ (kF (q.num*(p.den:Int))) ?_;have hn9:=gH (p.num*(q.den:Int)) (q.num*(p.den:Int))
   refine aJ 10 rfl (pX (Zn.of (k:=p.num*(q.den:Int)) (by omega)) (Zn.of (k:=q.num*(p.den:Int)) (by omega))) zO ⟨aB rfl,aB rfl,rfl⟩ (kF (p.num*(q.den:Int)+q.num*(p.den:Int))) ?_
   have hn10:=cD ((p.den:Int)) ((q.den:Int))
   refine aJ 15 rfl (eX (cR hs) (cR hs')) iL ⟨aB rfl,aB rfl,rfl⟩ (kF ((p.den:Int)*(q.den:Int))) ?_
   refine aJ 16 rfl (iK (Zn.of (k:=p.num*(q.den:Int)+q.num*(p.den:Int)) (by omega)) (Zn.of (k:=(p.den:Int)*(q.den:Int)) (by omega))) nW ⟨aB rfl,aB rfl,rfl⟩ (.tup [qF (.of (Rat.divInt (p.num*(q.den:Int)+q.num*(p.den:Int)) ((p.den:Int)*(q.den:Int)))),.one (tv (.int .i64 (if((p.den:Int)*(q.den:Int))=0 then 20 else 0)))]) ?_
   refine df 17 ?_;refine df 18 ?_;refine df 19 ?_;refine aV 21 (by kernel_rfl) rfl rfl aA rfl rfl rfl rfl ⟨rfl,rfl,rfl,trivial⟩ ?_
   refine dR 22 (by kernel_rfl) rfl rfl aA rfl (by trivial) ?_ (fun h=>by first | rfl | cases h)
   refine aS ?_;exact⟨(),trivial,aQ h0 [2,3] _ _ (by decide) ⟨rfl,rfl,trivial⟩ ⟨oe rfl rfl,oe rfl rfl,rfl⟩⟩
  refine bR (key:=3) 20 rfl rfl aA rfl ⟨rfl,rfl,rfl,trivial⟩ ?_;have hn11:=cD (p.num) ((q.den:Int))
  refine aJ 4 rfl (eX (eB hs) (cR hs')) iL ⟨aB rfl,aB rfl,rfl⟩ (kF (p.num*(q.den:Int))) ?_;have hn12:=cD (q.num) ((p.den:Int))
  refine aJ 9 rfl (eX (eB hs') (cR hs)) iL ⟨aB rfl,aB rfl,rfl⟩ (kF (q.num*(p.den:Int))) ?_;have hn13:=gH (p.num*(q.den:Int)) (q.num*(p.den:Int))
  refine aJ 10 rfl (pX (Zn.of (k:=p.num*(q.den:Int)) (by omega)) (Zn.of (k:=q.num*(p.den:Int)) (by omega))) zO ⟨aB rfl,aB rfl,rfl⟩ (kF (p.num*(q.den:Int)+q.num*(p.den:Int))) ?_
  have hn14:=cD ((p.den:Int)) ((q.den:Int))
  refine aJ 15 rfl (eX (cR hs) (cR hs')) iL ⟨aB rfl,aB rfl,rfl⟩ (kF ((p.den:Int)*(q.den:Int))) ?_
  refine aJ 16 rfl (iK (Zn.of (k:=p.num*(q.den:Int)+q.num*(p.den:Int)) (by omega)) (Zn.of (k:=(p.den:Int)*(q.den:Int)) (by omega))) nW ⟨aB rfl,aB rfl,rfl⟩ (.tup [qF (.of (Rat.divInt (p.num*(q.den:Int)+q.num*(p.den:Int)) ((p.den:Int)*(q.den:Int)))),.one (tv (.int .i64 (if((p.den:Int)*(q.den:Int))=0 then 20 else 0)))]) ?_
  refine df 17 ?_;refine df 18 ?_;refine df 19 ?_;refine aV 21 (by kernel_rfl) rfl rfl aA rfl rfl rfl rfl ⟨rfl,rfl,rfl,trivial⟩ ?_
  refine dR 22 (by kernel_rfl) rfl rfl aA rfl (by trivial) ?_ (fun h=>by first | rfl | cases h)
  refine aS ?_;exact⟨(),trivial,aQ h0 [2,3] _ _ (by decide) ⟨rfl,rfl,trivial⟩ ⟨oe rfl rfl,oe rfl rfl,rfl⟩⟩
 refine sq ?_;refine rl ?_;refine ld ?_;refine st ?_;refine nl ?_;refine rt ?_
 exact en (.inl rfl) rfl (aR (.agg (.cons (.id rfl) (.cons (.id rfl) (.cons (.id rfl) (.cons (.id rfl) .nil)))))) (by decide) (fun h=>by cases h) (by rw[←oM];rfl)
theorem Pz {a b:Fr4}{p q:Rat}(ha:Qn a p) (hb:Qn b q) (hs:Sz 17179869184 p) (hs':Sz 17179869184 q):aD false Tryz.prog 43 [] [qF a,qF b] (aL (qF (.of (p*q)))):=by
 refine bE Tryz.func43 rfl Tryz.ntmps43 rfl aA rfl fun N w c0 h0=>?_
 have hs1:=hs.1
 have hs2:(dg 4294967296 ((p.den:Int)).natAbs).length≤17179869184:=hs.2
 have hs3:=hs'.1
 have hs4:(dg 4294967296 ((q.den:Int)).natAbs).length≤17179869184:=hs'.2
 refine sq ?_;refine rl ?_;refine bx 0 ?_;refine bx 1 ?_;refine al 2 ?_;refine nl ?_;refine sq ?_;refine rl ?_;refine ld ?_;refine ca (iJ ha) sZ ⟨aB rfl,rfl⟩ (qF (.of p)) ?_
 refine st ?_;refine nl ?_;refine sq ?_;refine rl ?_;refine ld ?_;refine ca (iJ hb) sZ ⟨aB rfl,rfl⟩ (qF (.of q)) ?_;refine st ?_;refine nl ?_
 refine md (γ:=Unit) (fun _=>cK [(4,.one (.pt 0 0)),(5,.one (.pt 1 0))]) (fun _=>([⟨33,0,[tv (.bool false),tv (.slice none 0 0),tv (.bool false),tv (.slice none 0 0)]⟩,⟨33,0,((Fr4.of (Rat.divInt (p.num*q.num) ((p.den:Int)*(q.den:Int)))).tr false).map .t⟩]:List Ob).map some) (fun _=>True) ?_ fun _ _=>?_
 ·refine rd [0,1,2] (fun i=>[16].contains i) mixed ?_
  refine dv 0 ?_;refine aX 1 ?_;refine dv 2 ?_;refine aX 3 ?_;refine dv 5 ?_;refine aX 6 ?_;refine dv 7 ?_;refine aX 8 ?_;refine WO.two (i:=4) (j:=14) (by kernel_rfl) ?_ ?_
  ·have hn1:=cD (p.num) (q.num)
   refine cZ 4 rfl (eX (eB hs) (eB hs')) iL ⟨aB rfl,aB rfl,rfl⟩ (kF (p.num*q.num)) ?_;refine WO.two (i:=9) (j:=14) (by kernel_rfl) ?_ ?_
   ·have hn2:=cD ((p.den:Int)) ((q.den:Int))
    refine cZ 9 rfl (eX (cR hs) (cR hs')) iL ⟨aB rfl,aB rfl,rfl⟩ (kF ((p.den:Int)*(q.den:Int))) ?_;refine WO.two (i:=10) (j:=14) (by kernel_rfl) ?_ ?_
    ·refine cZ 10 rfl (iK (Zn.of (k:=p.num*q.num) (by omega)) (Zn.of (k:=(p.den:Int)*(q.den:Int)) (by omega))) nW ⟨aB rfl,aB rfl,rfl⟩ (.tup [qF (.of (Rat.divInt (p.num*q.num) ((p.den:Int)*(q.den:Int)))),.one (tv (.int .i64 (if((p.den:Int)*(q.den:Int))=0 then 20 else 0)))]) ?_
     refine df 11 ?_;refine df 12 ?_;refine df 13 ?_;refine fA (key:=3) 14 (by kernel_rfl) rfl rfl aA rfl ⟨rfl,rfl,rfl,trivial⟩ ?_
     refine aV 15 (by kernel_rfl) rfl rfl aA rfl rfl rfl rfl ⟨rfl,rfl,rfl,trivial⟩ ?_
     refine dR 16 (by kernel_rfl) rfl rfl aA rfl (by trivial) ?_ (fun h=>by first | rfl | cases h)
     refine aS ?_;exact⟨(),trivial,aQ h0 [2,3] _ _ (by decide) ⟨rfl,rfl,trivial⟩ ⟨oe rfl rfl,oe rfl rfl,rfl⟩⟩
    refine bR (key:=3) 14 rfl rfl aA rfl ⟨rfl,rfl,rfl,trivial⟩ ?_
    refine aJ 10 rfl (iK (Zn.of (k:=p.num*q.num) (by omega)) (Zn.of (k:=(p.den:Int)*(q.den:Int)) (by omega))) nW ⟨aB rfl,aB rfl,rfl⟩ (.tup [qF (.of (Rat.divInt (p.num*q.num) ((p.den:Int)*(q.den:Int)))),.one (tv (.int .i64 (if((p.den:Int)*(q.den:Int))=0 then 20 else 0)))]) ?_
    refine df 11 ?_;refine df 12 ?_;refine df 13 ?_;refine aV 15 (by kernel_rfl) rfl rfl aA rfl rfl rfl rfl ⟨rfl,rfl,rfl,trivial⟩ ?_
    refine dR 16 (by kernel_rfl) rfl rfl aA rfl (by trivial) ?_ (fun h=>by first | rfl | cases h)
    refine aS ?_;exact⟨(),trivial,aQ h0 [2,3] _ _ (by decide) ⟨rfl,rfl,trivial⟩ ⟨oe rfl rfl,oe rfl rfl,rfl⟩⟩
   refine bR (key:=3) 14 rfl rfl aA rfl ⟨rfl,rfl,rfl,trivial⟩ ?_;have hn3:=cD ((p.den:Int)) ((q.den:Int))
   refine aJ 9 rfl (eX (cR hs) (cR hs')) iL ⟨aB rfl,aB rfl,rfl⟩ (kF ((p.den:Int)*(q.den:Int))) ?_
   refine aJ 10 rfl (iK (Zn.of (k:=p.num*q.num) (by omega)) (Zn.of (k:=(p.den:Int)*(q.den:Int)) (by omega))) nW ⟨aB rfl,aB rfl,rfl⟩ (.tup [qF (.of (Rat.divInt (p.num*q.num) ((p.den:Int)*(q.den:Int)))),.one (tv (.int .i64 (if((p.den:Int)*(q.den:Int))=0 then 20 else 0)))]) ?_
   refine df 11 ?_;refine df 12 ?_;refine df 13 ?_;refine aV 15 (by kernel_rfl) rfl rfl aA rfl rfl rfl rfl ⟨rfl,rfl,rfl,trivial⟩ ?_
   refine dR 16 (by kernel_rfl) rfl rfl aA rfl (by trivial) ?_ (fun h=>by first | rfl | cases h)
   refine aS ?_;exact⟨(),trivial,aQ h0 [2,3] _ _ (by decide) ⟨rfl,rfl,trivial⟩ ⟨oe rfl rfl,oe rfl rfl,rfl⟩⟩
  refine bR (key:=3) 14 rfl rfl aA rfl ⟨rfl,rfl,rfl,trivial⟩ ?_;have hn4:=cD (p.num) (q.num)
  refine aJ 4 rfl (eX (eB hs) (eB hs')) iL ⟨aB rfl,aB rfl,rfl⟩ (kF (p.num*q.num)) ?_;have hn5:=cD ((p.den:Int)) ((q.den:Int))
  refine aJ 9 rfl (eX (cR hs) (cR hs')) iL ⟨aB rfl,aB rfl,rfl⟩ (kF ((p.den:Int)*(q.den:Int))) ?_
  refine aJ 10 rfl (iK (Zn.of (k:=p.num*q.num) (by omega)) (Zn.of (k:=(p.den:Int)*(q.den:Int)) (by omega))) nW ⟨aB rfl,aB rfl,rfl⟩ (.tup [qF (.of (Rat.divInt (p.num*q.num) ((p.den:Int)*(q.den:Int)))),.one (tv (.int .i64 (if((p.den:Int)*(q.den:Int))=0 then 20 else 0)))]) ?_
  refine df 11 ?_;refine df 12 ?_;refine df 13 ?_;refine aV 15 (by kernel_rfl) rfl rfl aA rfl rfl rfl rfl ⟨rfl,rfl,rfl,trivial⟩ ?_
  refine dR 16 (by kernel_rfl) rfl rfl aA rfl (by trivial) ?_ (fun h=>by first | rfl | cases h)
  refine aS ?_;exact⟨(),trivial,aQ h0 [2,3] _ _ (by decide) ⟨rfl,rfl,trivial⟩ ⟨oe rfl rfl,oe rfl rfl,rfl⟩⟩
 refine sq ?_;refine rl ?_;refine ld ?_;refine st ?_;refine nl ?_;refine rt ?_
 exact en (.inl rfl) rfl (aR (.agg (.cons (.id rfl) (.cons (.id rfl) (.cons (.id rfl) (.cons (.id rfl) .nil)))))) (by decide) (fun h=>by cases h) (congrArg (fun q=>qF (.of q)) (by rw[←Rat.divInt_mul_divInt,Rat.num_divInt_den,Rat.num_divInt_den]))
theorem FH {a b:Fr4}{p q:Rat}(ha:Qn a p) (hb:Qn b q) (hs:Sz 17179869184 p) (hs':Sz 17179869184 q):aD false Tryz.prog 79 [] [qF a,qF b] (aL (qF (.of (p-q)))):=by
 refine bE Tryz.func79 rfl Tryz.ntmps79 rfl aA rfl fun N w c0 h0=>?_
 refine sq ?_;refine rl ?_;refine bx 0 ?_;refine bx 1 ?_;refine al 2 ?_;refine nl ?_;refine sq ?_;refine rd [0,1,2] (fun i=>[4].contains i) mixed ?_
 refine aX 0 ?_;refine aX 1 ?_;refine aJ 2 rfl (Fc hb) Uc ⟨aB rfl,rfl⟩ (qF (.of (-q))) ?_
 refine aJ 3 rfl (Py ha (Qn.of (p:=(-q)) (Fd hs')) hs (Fd hs')) Xb ⟨aB rfl,aB rfl,rfl⟩ (qF (.of (p+(-q)))) ?_;refine dst 4 ?_;refine aS ?_;refine rt ?_
 exact en (.inl rfl) rfl (aR (.agg (.cons (.id rfl) (.cons (.id rfl) (.cons (.id rfl) (.cons (.id rfl) .nil)))))) (by decide) (fun h=>by cases h) (by rw[Rat.sub_eq_add_neg];rfl)
theorem AF {a:Fr4}{p:Rat}(ha:Qn a p):aD true Tryz.prog 46 [] [qF a] (aL (.one (tv (.int .i64 p.num.sign)))):=by
 refine bE Tryz.func46 rfl Tryz.ntmps46 rfl aA rfl fun N w c0 h0=>?_
 refine sq ?_;refine rl ?_;refine bx 0 ?_;refine o1 ?_;refine nl ?_;refine sq ?_;refine rl ?_;refine ld ?_;refine ca (iJ ha) sZ ⟨aB rfl,rfl⟩ (qF (.of p)) ?_;refine o1 ?_
 refine ca (lJ (eB ha.sz)) vT ⟨aB rfl,rfl⟩ (.one (tv (.int .i64 (p.num).sign))) ?_;refine o1 ?_;refine nl ?_;refine rt ?_
 exact en (.inl rfl) rfl (aR (aN _)) (by decide) (fun _=>trivial) rfl
theorem Qa {a b:Fr4}{p q:Rat}(ha:Qn a p) (hb:Qn b q) (hs:Sz 17179869184 p) (hs':Sz 17179869184 q):aD true Tryz.prog 35 [] [qF a,qF b] (aL (.one (tv (.int .i64 (p-q).num.sign)))):=by
 refine bE Tryz.func35 rfl Tryz.ntmps35 rfl aA rfl fun N w c0 h0=>?_
 refine sq ?_;refine rl ?_;refine bx 0 ?_;refine bx 1 ?_;refine o1 ?_;refine nl ?_;refine sq ?_;refine rl ?_;refine ld ?_;refine ld ?_
 refine ca (FH ha hb hs hs') OC ⟨aB rfl,aB rfl,rfl⟩ (qF (.of (p-q))) ?_
 refine ca (AF (Qn.of (p:=(p-q)) (FI hs hs'))) OD ⟨aB rfl,rfl⟩ (.one (tv (.int .i64 (p-q).num.sign))) ?_;refine o1 ?_;refine nl ?_;refine rt ?_
 exact en (.inl rfl) rfl (aR (aN _)) (by decide) (fun _=>trivial) rfl
theorem xP {a b:Fr4}{p q:Rat}(ha:Qn a p) (hb:Qn b q) (hs:Sz 17179869184 p) (hs':Sz 17179869184 q):aD false Tryz.prog 37 [] [qF a,qF b] (aL (.tup [qF (.of (p/q)),.one (tv (.int .i64 (if q=0 then 20 else 0)))])):=by
 refine bE Tryz.func37 rfl Tryz.ntmps37 rfl aA rfl fun N9 w9 c0 h0=>?_
 have hs1:=hs.1
 have hs2:(dg 4294967296 ((p.den:Int)).natAbs).length≤17179869184:=hs.2
 have hs3:=hs'.1
 have hs4:(dg 4294967296 ((q.den:Int)).natAbs).length≤17179869184:=hs'.2
 refine sq ?_;refine rl ?_;refine bx 0 ?_;refine bx 1 ?_;refine al 2 ?_;refine o1 ?_;refine nl ?_;refine sq ?_;refine rl ?_;refine ld ?_
 refine ca (iJ ha) sZ ⟨aB rfl,rfl⟩ (qF (.of p)) ?_;refine st ?_;refine nl ?_;refine sq ?_;refine rl ?_;refine ld ?_;refine ca (iJ hb) sZ ⟨aB rfl,rfl⟩ (qF (.of q)) ?_
 refine st ?_;refine nl ?_;refine sq ?_;refine rd [0,1,2] (fun i=>[13,14].contains i) mixed ?_
 refine dv 0 ?_;refine aX 1 ?_;refine dv 2 ?_;refine aX 3 ?_;refine dv 5 ?_;refine aX 6 ?_;refine dv 7 ?_;refine aX 8 ?_;have hn1:=cD (p.num) ((q.den:Int))
 refine aJ 4 rfl (eX (eB hs) (cR hs')) iL ⟨aB rfl,aB rfl,rfl⟩ (kF (p.num*(q.den:Int))) ?_;have hn2:=cD ((p.den:Int)) (q.num)
 refine aJ 9 rfl (eX (cR hs) (eB hs')) iL ⟨aB rfl,aB rfl,rfl⟩ (kF ((p.den:Int)*q.num)) ?_
 refine aJ 10 rfl (iK (Zn.of (k:=(p.num*(q.den:Int))) (by omega)) (Zn.of (k:=((p.den:Int)*q.num)) (by omega))) nW ⟨aB rfl,aB rfl,rfl⟩ (.tup [qF (.of (Rat.divInt ((p.num*(q.den:Int))) (((p.den:Int)*q.num)))),.one (tv (.int .i64 (if(((p.den:Int)*q.num))=0 then 20 else 0)))]) ?_
 refine df 11 ?_;refine df 12 ?_;refine dst 13 ?_;refine dR 14 (by kernel_rfl) rfl rfl aA rfl (by trivial) ?_ (fun h=>by first | rfl | cases h)
 refine aS ?_;refine rt ?_
 exact en (.inl rfl) rfl (cV (.cons (.agg (.cons (.id rfl) (.cons (.id rfl) (.cons (.id rfl) (.cons (.id rfl) .nil))))) (.cons (aN _) .nil))) (by decide) (fun h=>by cases h) (by have e9:(if((p.den:Int)*q.num)=0 then(20:Int)else 0)=if q=0 then 20 else 0:=(by simp only[Ep]);rw[e9,Lp];rfl)
theorem vU {l m:List Nat}{a:Nat}(hl:Lim 256 l) (hm:l.drop a=m) (ha:a≤10000000) (hn9:l.length≤10000000):aD true Tryz.prog 129 [] [.one (tv (.string (aC l))),.one (tv (.int .i64 ((a:Nat):Int)))] (aL (.one (tv (.int .i64 (((wh m).length:Nat):Int))))):=by
 refine bE Tryz.func129 rfl Tryz.ntmps129 rfl aA rfl fun N9 w9 c0 h0=>?_
 have hwl9:(wh m).length≤l.length:=by rw[←hm];exact Nat.le_trans (wV _) (by rw[List.length_drop];omega)
 refine sq ?_;refine rl ?_;refine o1 ?_;refine nl ?_;refine sq ?_;refine rl ?_;refine o1 ?_;refine nl ?_;refine sq ?_;refine bl ?_
 refine lp (γ:=Nat) (fun s=>cK [(0,.one (tv (.string (aC l)))),(1,.one (tv (.int .i64 ((a:Nat):Int)))),(5,.one (tv (.int .i64 ((s:Nat):Int))))]) (fun s=>([]:List Ob).map some) (fun s=>s≤(wh m).length) (fun s=>l.length-s) 0 (Nat.zero_le _) (aQ h0 [] _ _ (by decide) ⟨rfl,rfl,rfl,trivial⟩ rfl) ?_
 rintro n hn;refine sq ?_;refine sq ?_;refine rl ?_;(iterate 3 refine o1 ?_);refine WL.cast (t:=8) (u':=.int .i64 ((a+n:Nat):Int)) rfl (aH (by omega)) ?_
 refine o1 ?_;refine o1 ?_;refine WL.cast (t:=10) (u':=.int .i64 ((l.length:Nat):Int)) rfl (congrArg (fun n:Nat=>Value.int .i64 (n:Int)) (aG _)) ?_
 refine o1 ?_;refine o1 ?_;refine WL.split (t:=12) rfl (fun h1=>?_) (fun h1=>?_)
 ·(iterate 4 refine o1 ?_);refine WL.cast (t:=16) (u':=.int .i64 ((a+n:Nat):Int)) rfl (aH (by omega)) ?_
  refine o1 ?_ (hC:=(by rw[aG];omega))
  refine WL.cast (t:=17) (u':=.int .u8 (((nth l (a+n)):Nat):Int)) rfl (congrArg (fun n:Nat=>Value.int .u8 (n:Int)) (eI (i:=a+n) (by omega) (dK hl (by omega)))) ?_
  (iterate 3 refine o1 ?_);refine WL.split (t:=20) rfl (fun h2=>?_) (fun h2=>?_)
  ·(iterate 4 refine o1 ?_);refine WL.cast (t:=24) (u':=.int .i64 ((a+n:Nat):Int)) rfl (aH (by omega)) ?_
   refine o1 ?_ (hC:=(by rw[aG];omega))
   refine WL.cast (t:=25) (u':=.int .u8 (((nth l (a+n)):Nat):Int)) rfl (congrArg (fun n:Nat=>Value.int .u8 (n:Int)) (eI (i:=a+n) (by omega) (dK hl (by omega)))) ?_
   refine o1 ?_;refine o1 ?_;refine nl ?_;refine bQ rfl (fun h3=>?_) (fun h3=>?_)
   ·refine sk ?_;refine bl ?_;refine rl ?_;refine o1 ?_;refine o1 ?_;refine WL.cast (t:=29) (u':=.int .i64 ((n+1:Nat):Int)) rfl (aH (by omega)) ?_
    refine o1 ?_;refine nl ?_;exact⟨n+1,by omega,MT hm hn (by omega) (by omega) (by omega),aQ h0 [] _ _ (by decide) ⟨rfl,rfl,rfl,trivial⟩ rfl⟩
   refine ex ?_;refine sq ?_;refine rl ?_;refine o1 ?_;refine o1 ?_;refine nl ?_;refine rt ?_;have he:=Te hm hn (.inr (by omega))
   exact en (.inl rfl) rfl (aR (aN _)) (by decide) (fun _=>trivial) (congrArg (fun z=>FV.one (tv (.int .i64 z))) (by rw[he]))
  (iterate 6 refine cL ?_);refine o1 ?_;refine nl ?_;refine fY rfl ?_;refine ex ?_;refine sq ?_;refine rl ?_;refine o1 ?_;refine o1 ?_;refine nl ?_;refine rt ?_
  have he:=Te hm hn (.inr (by omega))
  exact en (.inl rfl) rfl (aR (aN _)) (by decide) (fun _=>trivial) (congrArg (fun z=>FV.one (tv (.int .i64 z))) (by rw[he]))
 (iterate 6 refine cL ?_);refine o1 ?_;refine o1 ?_;(iterate 6 refine cL ?_);refine o1 ?_;refine nl ?_;refine fY rfl ?_;refine ex ?_;refine sq ?_;refine rl ?_;refine o1 ?_;refine o1 ?_
 refine nl ?_;refine rt ?_;have he:=Te hm hn (.inl (by omega))
 exact en (.inl rfl) rfl (aR (aN _)) (by decide) (fun _=>trivial) (congrArg (fun z=>FV.one (tv (.int .i64 z))) (by rw[he]))
theorem FJ {m:List Nat}(h:(wh m).length=0∨(1<(wh m).length∧nth m 0=48)):b1 m=true:=by
 unfold b1
 simpa using h
theorem FK {m:List Nat}(h:¬((wh m).length=0∨(1<(wh m).length∧nth m 0=48))):b1 m=false:=by
 unfold b1
 rw[Bool.eq_false_iff]
 intro h2
 exact h (by simpa using h2)
theorem Jj {l:List Nat}{a b:Nat}{c:Bool}(hB:gO (aE l)=false) (ha:a=(wh (aE l)).length) (hb:b=(pl (aE l)).length) (hc:c=decide ((rr (aE l))=[])):FV.tup [.one (tv (.int .i64 ((a:Nat):Int))),.one (tv (.int .i64 ((b:Nat):Int))),.one (tv (.bool c))]=FV.tup [.one (tv (.int .i64 ((rU l:Nat):Int))),.one (tv (.int .i64 ((rV l:Nat):Int))),.one (tv (.bool (uV l)))]:=by
 unfold rU rV uV
 rw[hB,ha,hb,hc]
 rfl
theorem FL {l:List Nat}(hl:Lim 256 l) (hn9:l.length≤1000000):aD true Tryz.prog 77 [] [.one (tv (.string (aC l)))] (aL (.tup [.one (tv (.int .i64 ((rU l:Nat):Int))),.one (tv (.int .i64 ((rV l:Nat):Int))),.one (tv (.bool (uV l)))])):=by
 refine bE Tryz.func77 rfl Tryz.ntmps77 rfl aA rfl fun N9 w9 c0 h0=>?_
 have hal:=pN l
 have hwl:=wV (aE l)
 have ha1:fI l≤1:=by unfold fI;split <;> omega
 refine sq ?_;refine rl ?_;(iterate 3 refine o1 ?_);refine nl ?_;refine sq ?_;refine rl ?_;refine o1 ?_;refine nl ?_
 refine md (γ:=Unit) (fun _=>cK [(0,.one (tv (.string (aC l)))),(5,.one (tv (.int .i64 (((fI l):Nat):Int))))]) (fun _=>([]:List Ob).map some) (fun _=>True) ?_ fun _ _=>?_
 ·refine sq ?_;refine rl ?_;refine o1 ?_;refine o1 ?_;refine WL.cast (t:=10) (u':=.int .i64 ((l.length:Nat):Int)) rfl (congrArg (fun n:Nat=>Value.int .i64 (n:Int)) (aG _)) ?_
  refine o1 ?_;refine o1 ?_;refine WL.split (t:=12) rfl (fun h1=>?_) (fun h1=>?_)
  ·refine o1 ?_;refine o1 ?_ (hC:=(by rw[aG];show 0<l.length;omega))
   refine WL.cast (t:=14) (u':=.int .u8 (((nth l (0)):Nat):Int)) rfl (congrArg (fun n:Nat=>Value.int .u8 (n:Int)) (eI (i:=0) (by omega) (dK hl (by omega)))) ?_
   refine o1 ?_;refine o1 ?_;refine nl ?_;refine bQ rfl (fun h2=>?_) (fun h2=>?_)
   ·refine rl ?_;refine o1 ?_;refine nl ?_;exact⟨(),trivial,aQ h0 [] _ _ (by decide) ⟨rfl,nQ (by rw[JC (by omega) (by omega)];rfl),trivial⟩ rfl⟩
   refine sk ?_;exact⟨(),trivial,aQ h0 [] _ _ (by decide) ⟨rfl,nQ (by rw[Vy (by omega)];rfl),trivial⟩ rfl⟩
  (iterate 3 refine cL ?_);refine o1 ?_;refine nl ?_;refine fY rfl ?_;refine sk ?_;exact⟨(),trivial,aQ h0 [] _ _ (by decide) ⟨rfl,nQ (by rw[Vy (by omega)];rfl),trivial⟩ rfl⟩
 refine sq ?_;refine rl ?_;refine o1 ?_;refine o1 ?_
 refine ca (vU (m:=aE l) hl (qU l) (by omega) (by omega)) Mq ⟨a1 rfl,a1 rfl,rfl⟩ (.one (tv (.int .i64 (((wh (aE l)).length:Nat):Int)))) ?_
 refine o1 ?_;refine nl ?_;refine sq ?_;refine sq ?_;have h00:nth (aE l) 0=nth l (fI l):=mB (n:=0) (qU l)
 refine rl ?_;(iterate 3 refine o1 ?_);refine WL.split (t:=22) rfl (fun h3=>?_) (fun h3=>?_)
 ·(iterate 8 refine cL ?_);refine o1 ?_;refine nl ?_;refine gJ rfl ?_;refine sq ?_;refine rl ?_;(iterate 3 refine o1 ?_);refine nl ?_;refine rt ?_
  have hB:gO (aE l)=true:=by unfold gO;rw[FJ (by omega)];rfl
  exact en (.inl rfl) rfl (gG (.cons (aN _) (.cons (aN _) (.cons (aN _) .nil)))) (by decide) (fun _=>⟨trivial,trivial,trivial,trivial⟩) (by unfold rU rV uV;rw[hB];rfl)
 (iterate 3 refine o1 ?_);refine WL.split (t:=25) rfl (fun h4=>?_) (fun h4=>?_)
 ·refine o1 ?_;refine o1 ?_;refine o1 ?_ (hC:=(by rw[aG];omega))
  refine WL.cast (t:=28) (u':=.int .u8 (((nth l (fI l)):Nat):Int)) rfl (congrArg (fun n:Nat=>Value.int .u8 (n:Int)) (eI (i:=fI l) (by omega) (dK hl (by omega)))) ?_
  (iterate 3 refine o1 ?_);refine nl ?_;refine bQ rfl (fun h5=>?_) (fun h5=>?_)
  ·refine sq ?_;refine rl ?_;(iterate 3 refine o1 ?_);refine nl ?_;refine rt ?_;have hB:gO (aE l)=true:=by unfold gO;rw[FJ (by omega)];rfl
   exact en (.inl rfl) rfl (gG (.cons (aN _) (.cons (aN _) (.cons (aN _) .nil)))) (by decide) (fun _=>⟨trivial,trivial,trivial,trivial⟩) (by unfold rU rV uV;rw[hB];rfl)
  refine sk ?_;refine sq ?_;have hb1:b1 (aE l)=false:=FK (by omega)
  refine rl ?_;(iterate 3 refine o1 ?_);refine WL.cast (t:=34) (u':=.int .i64 (((fI l)+((wh (aE l)).length):Nat):Int)) rfl (aH (by omega)) ?_
  refine o1 ?_;refine nl ?_;refine sq ?_;refine rl ?_;refine o1 ?_;refine nl ?_;refine sq ?_;refine sq ?_;refine rl ?_;(iterate 3 refine o1 ?_)
  refine WL.cast (t:=37) (u':=.int .i64 ((l.length:Nat):Int)) rfl (congrArg (fun n:Nat=>Value.int .i64 (n:Int)) (aG _)) ?_
  refine o1 ?_;refine o1 ?_;refine WL.split (t:=39) rfl (fun h6=>?_) (fun h6=>?_)
  ·refine o1 ?_;refine o1 ?_;refine o1 ?_ (hC:=(by rw[aG];omega))
   refine WL.cast (t:=42) (u':=.int .u8 (((nth l (fI l+(wh (aE l)).length)):Nat):Int)) rfl (congrArg (fun n:Nat=>Value.int .u8 (n:Int)) (eI (i:=fI l+(wh (aE l)).length) (by omega) (dK hl (by omega)))) ?_
   refine o1 ?_;refine o1 ?_;refine nl ?_;refine bQ rfl (fun h7=>?_) (fun h7=>?_)
   ·refine sq ?_;have hp:=Vz (l:=l) (by omega) (by omega)
    have hpw:=Wa hp
    have hpwl:=congrArg List.length hpw
    have hly:=Wb hp
    refine rl ?_;(iterate 3 refine o1 ?_);refine WL.cast (t:=47) (u':=.int .i64 (((fI l)+((wh (aE l)).length)+1:Nat):Int)) rfl (aH (by omega)) ?_
    refine ca (vU (m:=gY (cA (aE l))) hl (Ip hp) (by omega) (by omega)) Mq ⟨a1 rfl,a1 rfl,rfl⟩ (.one (tv (.int .i64 (((wh (gY (cA (aE l)))).length:Nat):Int)))) ?_
    refine o1 ?_;refine nl ?_;refine sq ?_;refine sq ?_;refine rl ?_;refine o1 ?_;refine o1 ?_;refine nl ?_;refine bQ rfl (fun h8=>?_) (fun h8=>?_)
    ·refine sq ?_;refine rl ?_;(iterate 3 refine o1 ?_);refine nl ?_;refine rt ?_
     have hB:gO (aE l)=true:=by unfold gO b2;rw[hp,←hpw,decide_eq_true (by omega),Bool.true_and,Bool.or_true]
     exact en (.inl rfl) rfl (gG (.cons (aN _) (.cons (aN _) (.cons (aN _) .nil)))) (by decide) (fun _=>⟨trivial,trivial,trivial,trivial⟩) (by unfold rU rV uV;rw[hB];rfl)
    refine sk ?_;refine rl ?_;refine o1 ?_;refine o1 ?_;refine WL.cast (t:=52) (u':=.int .i64 (((fI l)+((wh (aE l)).length)+1:Nat):Int)) rfl (aH (by omega)) ?_
    refine o1 ?_;refine o1 ?_;refine WL.cast (t:=54) (u':=.int .i64 (((fI l)+((wh (aE l)).length)+1+((wh (gY (cA (aE l)))).length):Nat):Int)) rfl (aH (by omega)) ?_
    refine o1 ?_;refine nl ?_;refine sq ?_;refine rl ?_;(iterate 5 refine o1 ?_)
    refine WL.cast (t:=59) (u':=.int .i64 ((l.length:Nat):Int)) rfl (congrArg (fun n:Nat=>Value.int .i64 (n:Int)) (aG _)) ?_
    (iterate 4 refine o1 ?_);refine nl ?_;refine rt ?_;have hB:gO (aE l)=false:=by unfold gO b2;rw[hb1,hp,←hpw,decide_eq_false (by omega)];rfl
    have hq9:=congrArg List.length hpw
    exact en (.inl rfl) rfl (gG (.cons (aN _) (.cons (aN _) (.cons (aN _) .nil)))) (by decide) (fun _=>⟨trivial,trivial,trivial,trivial⟩) (Jj hB rfl (congrArg List.length hpw) (decide_eq_decide.2 (by rw[Iq];omega)))
   refine sk ?_;refine sq ?_;refine rl ?_;(iterate 5 refine o1 ?_)
   refine WL.cast (t:=59) (u':=.int .i64 ((l.length:Nat):Int)) rfl (congrArg (fun n:Nat=>Value.int .i64 (n:Int)) (aG _)) ?_
   (iterate 4 refine o1 ?_);refine nl ?_;refine rt ?_;have hp:=Bz (l:=l) (by omega)
   have hpl:=mV hp
   have hln:=Ca hp
   have hB:gO (aE l)=false:=by unfold gO b2;rw[hb1,hp];rfl
   exact en (.inl rfl) rfl (gG (.cons (aN _) (.cons (aN _) (.cons (aN _) .nil)))) (by decide) (fun _=>⟨trivial,trivial,trivial,trivial⟩) (Jj hB rfl (by rw[hpl];rfl) (decide_eq_decide.2 (by rw[Iq];omega)))
  (iterate 4 refine cL ?_);refine o1 ?_;refine nl ?_;refine fY rfl ?_;refine sk ?_;refine sq ?_;refine rl ?_;(iterate 5 refine o1 ?_)
  refine WL.cast (t:=59) (u':=.int .i64 ((l.length:Nat):Int)) rfl (congrArg (fun n:Nat=>Value.int .i64 (n:Int)) (aG _)) ?_
  (iterate 4 refine o1 ?_);refine nl ?_;refine rt ?_;have hp:=Bz (l:=l) (by omega)
  have hpl:=mV hp
  have hln:=Ca hp
  have hB:gO (aE l)=false:=by unfold gO b2;rw[hb1,hp];rfl
  exact en (.inl rfl) rfl (gG (.cons (aN _) (.cons (aN _) (.cons (aN _) .nil)))) (by decide) (fun _=>⟨trivial,trivial,trivial,trivial⟩) (Jj hB rfl (by rw[hpl];rfl) (decide_eq_decide.2 (by rw[Iq];omega)))
 (iterate 4 refine cL ?_);refine o1 ?_;refine o1 ?_;refine nl ?_;refine fY rfl ?_;refine sk ?_;refine sq ?_;have hb1:b1 (aE l)=false:=FK (by omega)
 refine rl ?_;(iterate 3 refine o1 ?_);refine WL.cast (t:=34) (u':=.int .i64 (((fI l)+((wh (aE l)).length):Nat):Int)) rfl (aH (by omega)) ?_
 refine o1 ?_;refine nl ?_;refine sq ?_;refine rl ?_;refine o1 ?_;refine nl ?_;refine sq ?_;refine sq ?_;refine rl ?_;(iterate 3 refine o1 ?_)
 refine WL.cast (t:=37) (u':=.int .i64 ((l.length:Nat):Int)) rfl (congrArg (fun n:Nat=>Value.int .i64 (n:Int)) (aG _)) ?_
 refine o1 ?_;refine o1 ?_;refine WL.split (t:=39) rfl (fun h9=>?_) (fun h9=>?_)
 ·refine o1 ?_;refine o1 ?_;refine o1 ?_ (hC:=(by rw[aG];omega))
  refine WL.cast (t:=42) (u':=.int .u8 (((nth l (fI l+(wh (aE l)).length)):Nat):Int)) rfl (congrArg (fun n:Nat=>Value.int .u8 (n:Int)) (eI (i:=fI l+(wh (aE l)).length) (by omega) (dK hl (by omega)))) ?_
  refine o1 ?_;refine o1 ?_;refine nl ?_;refine bQ rfl (fun h10=>?_) (fun h10=>?_)
  ·refine sq ?_;have hp:=Vz (l:=l) (by omega) (by omega)
   have hpw:=Wa hp
   have hpwl:=congrArg List.length hpw
   have hly:=Wb hp
   refine rl ?_;(iterate 3 refine o1 ?_);refine WL.cast (t:=47) (u':=.int .i64 (((fI l)+((wh (aE l)).length)+1:Nat):Int)) rfl (aH (by omega)) ?_
   refine ca (vU (m:=gY (cA (aE l))) hl (Ip hp) (by omega) (by omega)) Mq ⟨a1 rfl,a1 rfl,rfl⟩ (.one (tv (.int .i64 (((wh (gY (cA (aE l)))).length:Nat):Int)))) ?_
   refine o1 ?_;refine nl ?_;refine sq ?_;refine sq ?_;refine rl ?_;refine o1 ?_;refine o1 ?_;refine nl ?_;refine bQ rfl (fun h11=>?_) (fun h11=>?_)
   ·refine sq ?_;refine rl ?_;(iterate 3 refine o1 ?_);refine nl ?_;refine rt ?_
    have hB:gO (aE l)=true:=by unfold gO b2;rw[hp,←hpw,decide_eq_true (by omega),Bool.true_and,Bool.or_true]
    exact en (.inl rfl) rfl (gG (.cons (aN _) (.cons (aN _) (.cons (aN _) .nil)))) (by decide) (fun _=>⟨trivial,trivial,trivial,trivial⟩) (by unfold rU rV uV;rw[hB];rfl)
   refine sk ?_;refine rl ?_;refine o1 ?_;refine o1 ?_;refine WL.cast (t:=52) (u':=.int .i64 (((fI l)+((wh (aE l)).length)+1:Nat):Int)) rfl (aH (by omega)) ?_
   refine o1 ?_;refine o1 ?_;refine WL.cast (t:=54) (u':=.int .i64 (((fI l)+((wh (aE l)).length)+1+((wh (gY (cA (aE l)))).length):Nat):Int)) rfl (aH (by omega)) ?_
   refine o1 ?_;refine nl ?_;refine sq ?_;refine rl ?_;(iterate 5 refine o1 ?_)
   refine WL.cast (t:=59) (u':=.int .i64 ((l.length:Nat):Int)) rfl (congrArg (fun n:Nat=>Value.int .i64 (n:Int)) (aG _)) ?_
   (iterate 4 refine o1 ?_);refine nl ?_;refine rt ?_;have hB:gO (aE l)=false:=by unfold gO b2;rw[hb1,hp,←hpw,decide_eq_false (by omega)];rfl
   have hq9:=congrArg List.length hpw
   exact en (.inl rfl) rfl (gG (.cons (aN _) (.cons (aN _) (.cons (aN _) .nil)))) (by decide) (fun _=>⟨trivial,trivial,trivial,trivial⟩) (Jj hB rfl (congrArg List.length hpw) (decide_eq_decide.2 (by rw[Iq];omega)))
  refine sk ?_;refine sq ?_;refine rl ?_;(iterate 5 refine o1 ?_)
  refine WL.cast (t:=59) (u':=.int .i64 ((l.length:Nat):Int)) rfl (congrArg (fun n:Nat=>Value.int .i64 (n:Int)) (aG _)) ?_
  (iterate 4 refine o1 ?_);refine nl ?_;refine rt ?_;have hp:=Bz (l:=l) (by omega)
  have hpl:=mV hp
  have hln:=Ca hp
  have hB:gO (aE l)=false:=by unfold gO b2;rw[hb1,hp];rfl
  exact en (.inl rfl) rfl (gG (.cons (aN _) (.cons (aN _) (.cons (aN _) .nil)))) (by decide) (fun _=>⟨trivial,trivial,trivial,trivial⟩) (Jj hB rfl (by rw[hpl];rfl) (decide_eq_decide.2 (by rw[Iq];omega)))
 (iterate 4 refine cL ?_);refine o1 ?_;refine nl ?_;refine fY rfl ?_;refine sk ?_;refine sq ?_;refine rl ?_;(iterate 5 refine o1 ?_)
 refine WL.cast (t:=59) (u':=.int .i64 ((l.length:Nat):Int)) rfl (congrArg (fun n:Nat=>Value.int .i64 (n:Int)) (aG _)) ?_
 (iterate 4 refine o1 ?_);refine nl ?_;refine rt ?_;have hp:=Bz (l:=l) (by omega)
 have hpl:=mV hp
 have hln:=Ca hp
 have hB:gO (aE l)=false:=by unfold gO b2;rw[hb1,hp];rfl
 exact en (.inl rfl) rfl (gG (.cons (aN _) (.cons (aN _) (.cons (aN _) .nil)))) (by decide) (fun _=>⟨trivial,trivial,trivial,trivial⟩) (Jj hB rfl (by rw[hpl];rfl) (decide_eq_decide.2 (by rw[Iq];omega)))
theorem KM:((1:Int):Rat)=((10^0:Nat):Rat):=rfl
theorem KN (k:Nat):((10^k:Nat):Rat)*((10:Int):Rat)=((10^(k+1):Nat):Rat):=by
 rw[Nat.pow_succ,Rat.natCast_mul]
 rfl
theorem Xc {c:Nat}(hc:c≤1000000):aD false Tryz.prog 45 [] [.one (tv (.int .i64 ((c:Nat):Int)))] (aL (qF (.of ((10^c:Nat):Rat)))):=by
 refine bE Tryz.func45 rfl Tryz.ntmps45 rfl aA rfl fun N9 w9 c0 h0=>?_
 refine sq ?_;refine rl ?_;refine al 0 ?_;refine nl ?_;refine sq ?_;refine rl ?_;refine ca (jP (n:=1) (by omega) (by omega)) vV ⟨a1 rfl,rfl⟩ (qF (.of ((1:Int):Rat))) ?_
 refine al 1 ?_;refine st ?_;refine nl ?_;refine sq ?_;refine sq ?_;refine rl ?_;refine o1 ?_;refine nl ?_;refine bl ?_
 refine lp (γ:=Nat) (fun s=>cK [(0,.one (tv (.int .i64 ((c:Nat):Int)))),(2,.one (.pt 0 0)),(3,.one (.pt 1 0)),(4,.one (tv (.int .i64 ((s:Nat):Int))))]) (fun s=>[(⟨33,0,[tv (.bool false),tv (.slice none 0 0),tv (.bool false),tv (.slice none 0 0)]⟩:Ob),⟨33,0,((Fr4.of ((10^s:Nat):Rat)).tr false).map .t⟩].map some) (fun s=>s≤c) (fun s=>c-s) 0 (Nat.zero_le _) (aQ h0 [0,1] _ _ (by decide) ⟨rfl,rfl,rfl,rfl,trivial⟩ ⟨oe rfl rfl,cX (congrArg (fun q=>some (⟨33,0,((Fr4.of q).tr false).map .t⟩:Ob)) KM),rfl⟩) ?_
 rintro k hk;refine sq ?_;refine sq ?_;refine rl ?_;(iterate 3 refine o1 ?_);refine nl ?_;refine bQ rfl (fun h1=>?_) (fun h1=>?_)
 ·refine sk ?_;refine sq ?_;refine bl ?_;refine rd [0,1] (fun i=>[2,3].contains i) mixed ?_
  refine aX 0 ?_;refine aJ 1 rfl (jP (n:=10) (by omega) (by omega)) vV ⟨a1 rfl,rfl⟩ (qF (.of ((10:Int):Rat))) ?_
  refine aJ 2 rfl (Pz (Qn.of (p:=((10^k:Nat):Rat)) ((gQ k).mono (M:=68719476736) (by omega))) (Qn.of (p:=((10:Int):Rat)) (cS (by omega) (by omega))) ((gQ k).mono (M:=17179869184) (by omega)) ((cS (by omega) (by omega)).mono (M:=17179869184) (by omega))) FM ⟨aB rfl,aB rfl,rfl⟩ (qF (.of (((10^k:Nat):Rat)*((10:Int):Rat)))) ?_
  refine dst 3 ?_;refine aS ?_;refine rl ?_;refine o1 ?_;refine o1 ?_;refine WL.cast (t:=10) (u':=.int .i64 ((k+1:Nat):Int)) rfl (aH (by omega)) ?_
  refine o1 ?_;refine nl ?_
  exact⟨k+1,by omega,by omega,aQ h0 [0,1] _ _ (by decide) ⟨rfl,rfl,rfl,rfl,trivial⟩ ⟨oe rfl rfl,cX (congrArg (fun q=>some (⟨33,0,((Fr4.of q).tr false).map .t⟩:Ob)) (KN k)),rfl⟩⟩
 refine ex ?_;refine sq ?_;refine rl ?_;refine ld ?_;refine st ?_;refine nl ?_;refine rt ?_
 exact en (.inl rfl) rfl (aR (.agg (.cons (.id rfl) (.cons (.id rfl) (.cons (.id rfl) (.cons (.id rfl) .nil)))))) (by decide) (fun h=>by cases h) (by rw[show k=c by omega];rfl)
theorem OE:(0:Rat)=((sD (([]:List Nat)):Nat):Rat):=rfl
theorem AG {L n:Nat}(h:(dg 4294967296 n).length≤L+1):Sz (L+1) ((n:Nat):Rat):=by
 refine⟨?_,?_⟩
 ·rw[Rat.num_natCast,Int.natAbs_natCast]
  exact h
 rw[Rat.den_natCast]
 exact Nat.le_trans (show(dg 4294967296 1).length≤1 by decide) (by omega)
theorem FN {u v d:Nat}(h:v=u*10+d):((u:Nat):Rat)*((10:Int):Rat)+(((d:Nat):Int):Rat)=((v:Nat):Rat):=by
 rw[h,Rat.natCast_add,Rat.natCast_mul]
 rfl
theorem FO {l:List Nat}(hl:Lim 256 l) (hn9:l.length≤1000000) (hf:gB (aE l)=true):aD false Tryz.prog 78 [] [.one (tv (.string (aC l)))] (aL (qF (.of (uT l)))):=by
 refine bE Tryz.func78 rfl Tryz.ntmps78 rfl aA rfl fun N9 w9 c0 h0=>?_
 have hb:=Ow hf
 have hpos:=Ir hf
 have hwp:=sH (aE l)
 have hal:=pN l
 refine sq ?_;refine rl ?_;refine al 0 ?_;refine nl ?_;refine sq ?_;refine rl ?_;refine ca (fT) mN rfl (qF (.of 0)) ?_;refine al 1 ?_;refine st ?_;refine nl ?_;refine sq ?_
 refine rl ?_;refine o1 ?_;refine nl ?_;refine sq ?_;refine sq ?_;refine rl ?_;refine o1 ?_;refine nl ?_;refine bl ?_
 refine lp (γ:=Nat) (fun s=>cK [(0,.one (tv (.string (aC l)))),(2,.one (.pt 0 0)),(3,.one (.pt 1 0)),(4,.one (tv (.int .i64 (sP (l.take s))))),(5,.one (tv (.int .i64 ((s:Nat):Int))))]) (fun s=>[(⟨33,0,[tv (.bool false),tv (.slice none 0 0),tv (.bool false),tv (.slice none 0 0)]⟩:Ob),⟨33,0,((Fr4.of ((sD (l.take s):Nat):Rat)).tr false).map .t⟩].map some) (fun s=>s≤l.length) (fun s=>l.length-s) 0 (Nat.zero_le _) (aQ h0 [0,1] _ _ (by decide) ⟨rfl,rfl,rfl,nQ rfl,rfl,trivial⟩ ⟨oe rfl rfl,cX (congrArg (fun q=>some (⟨33,0,((Fr4.of q).tr false).map .t⟩:Ob)) OE),rfl⟩) ?_
 rintro k hk
 have hsd:Sz (k+2) ((sD (l.take k):Nat):Rat):=AG (bO (by omega) (Nat.lt_of_lt_of_le (JD hk hb) (Nat.le_trans (Nat.pow_le_pow_left (show 10≤4294967296 by omega) k) (Nat.pow_le_pow_right (by omega) (by omega)))))
 have hspl:=JE (l:=l) hk
 refine sq ?_;refine sq ?_;refine rl ?_;(iterate 3 refine o1 ?_)
 refine WL.cast (t:=9) (u':=.int .i64 ((l.length:Nat):Int)) rfl (congrArg (fun n:Nat=>Value.int .i64 (n:Int)) (aG _)) ?_
 refine o1 ?_;refine nl ?_;refine bQ rfl (fun h1=>?_) (fun h1=>?_)
 ·refine sk ?_;refine sq ?_;refine bl ?_;refine bl ?_;refine sq ?_;refine rl ?_;refine o1 ?_;refine o1 ?_;refine o1 ?_ (hC:=(by rw[aG];omega))
  refine WL.cast (t:=16) (u':=.int .u8 (((nth l (k)):Nat):Int)) rfl (congrArg (fun n:Nat=>Value.int .u8 (n:Int)) (eI (i:=k) (by omega) (dK hl (by omega)))) ?_
  refine o1 ?_;refine o1 ?_;refine nl ?_;refine bQ rfl (fun h2=>?_) (fun h2=>?_)
  ·refine rl ?_;refine o1 ?_;refine nl ?_;refine rl ?_;refine o1 ?_;refine o1 ?_;refine WL.cast (t:=12) (u':=.int .i64 ((k+1:Nat):Int)) rfl (aH (by omega)) ?_
   refine o1 ?_;refine nl ?_;have hsd1:=Dn (l:=l) (k:=k) (by omega)
   have hsp1:=Do (l:=l) (k:=k) (by omega)
   rw[if_pos (by omega)]at hsd1 hsp1
   exact⟨k+1,by omega,by omega,aQ h0 [0,1] _ _ (by decide) ⟨rfl,rfl,rfl,nQ (by rw[hsp1]),rfl,trivial⟩ ⟨oe rfl rfl,cX (congrArg (fun q=>some (⟨33,0,((Fr4.of q).tr false).map .t⟩:Ob)) (congrArg (fun n:Nat=>(n:Rat)) hsd1.symm)),rfl⟩⟩
  refine sq ?_;refine rl ?_;refine o1 ?_;refine o1 ?_;refine o1 ?_ (hC:=(by rw[aG];omega))
  refine WL.cast (t:=21) (u':=.int .u8 (((nth l (k)):Nat):Int)) rfl (congrArg (fun n:Nat=>Value.int .u8 (n:Int)) (eI (i:=k) (by omega) (dK hl (by omega)))) ?_
  refine o1 ?_;refine o1 ?_;refine nl ?_;refine bQ rfl (fun h3=>?_) (fun h3=>?_)
  ·refine sq ?_;have hck:=hb _ (Vx (l:=l) (k:=k) (by omega))
   refine rd [0,1] (fun i=>[10].contains i) mixed ?_
   refine aX 0 ?_;refine dv 3 ?_;refine dv 4 ?_;refine dv 5 ?_ (hC:=(by rw[aG];omega))
   refine WD.cast (t:=28) (u':=.int .u8 (((nth l (k)):Nat):Int)) rfl (congrArg (fun n:Nat=>Value.int .u8 (n:Int)) (eI (i:=k) (by omega) (dK hl (by omega)))) ?_
   refine dv 6 ?_;refine WD.cast (t:=29) (u':=.int .u8 (((nth l (k))-48:Nat):Int)) rfl (aH (by omega)) ?_
   refine dv 7 ?_;refine WD.cast (t:=30) (u':=.int .i64 (((nth l (k))-48:Nat):Int)) rfl (aH (by omega)) ?_
   refine aJ 1 rfl (jP (n:=10) (by omega) (by omega)) vV ⟨a1 rfl,rfl⟩ (qF (.of ((10:Int):Rat))) ?_
   refine aJ 2 rfl (Pz (Qn.of (p:=((sD (l.take k):Nat):Rat)) (hsd.mono (M:=68719476736) (by omega))) (Qn.of (p:=((10:Int):Rat)) ((cS (by omega) (by omega)).mono (M:=68719476736) (by omega))) (hsd.mono (M:=17179869184) (by omega)) ((cS (by omega) (by omega)).mono (M:=17179869184) (by omega))) FM ⟨aB rfl,aB rfl,rfl⟩ (qF (.of (((sD (l.take k):Nat):Rat)*((10:Int):Rat)))) ?_
   refine aJ 8 rfl (jP (n:=(((nth l (k))-48:Nat):Int)) (by omega) (by omega)) vV ⟨a1 rfl,rfl⟩ (qF (.of ((((nth l (k))-48:Nat):Int):Rat))) ?_
   refine aJ 9 rfl (Py (Qn.of (p:=(((sD (l.take k):Nat):Rat)*((10:Int):Rat))) ((nR hsd (cS (by omega) (by omega))).mono (M:=68719476736) (by omega))) (Qn.of (p:=((((nth l (k))-48:Nat):Int):Rat)) ((cS (by omega) (by omega)).mono (M:=68719476736) (by omega))) ((nR hsd (cS (by omega) (by omega))).mono (M:=17179869184) (by omega)) ((cS (by omega) (by omega)).mono (M:=17179869184) (by omega))) Xb ⟨aB rfl,aB rfl,rfl⟩ (qF (.of ((((sD (l.take k):Nat):Rat)*((10:Int):Rat))+((((nth l (k))-48:Nat):Int):Rat)))) ?_
   refine dst 10 ?_;refine aS ?_;refine sq ?_;refine rl ?_;refine o1 ?_;refine o1 ?_;refine nl ?_;refine bQ rfl (fun h4=>?_) (fun h4=>?_)
   ·refine rl ?_;refine o1 ?_;refine o1 ?_;refine WL.cast (t:=36) (u':=.int .i64 ((sP (l.take k)+1))) rfl (aH (by rfl)) ?_
    refine o1 ?_;refine nl ?_;refine rl ?_;refine o1 ?_;refine o1 ?_;refine WL.cast (t:=12) (u':=.int .i64 ((k+1:Nat):Int)) rfl (aH (by omega)) ?_
    refine o1 ?_;refine nl ?_;have hsd1:=Dn (l:=l) (k:=k) (by omega)
    have hsp1:=Do (l:=l) (k:=k) (by omega)
    rw[if_neg (by omega),if_neg (by omega)]at hsd1 hsp1
    rw[if_pos (by omega)]at hsp1
    exact⟨k+1,by omega,by omega,aQ h0 [0,1] _ _ (by decide) ⟨rfl,rfl,rfl,nQ hsp1,rfl,trivial⟩ ⟨oe rfl rfl,cX (congrArg (fun q=>some (⟨33,0,((Fr4.of q).tr false).map .t⟩:Ob)) (FN hsd1)),rfl⟩⟩
   refine sk ?_;refine rl ?_;refine o1 ?_;refine o1 ?_;refine WL.cast (t:=12) (u':=.int .i64 ((k+1:Nat):Int)) rfl (aH (by omega)) ?_
   refine o1 ?_;refine nl ?_;have hsd1:=Dn (l:=l) (k:=k) (by omega)
   have hsp1:=Do (l:=l) (k:=k) (by omega)
   rw[if_neg (by omega),if_neg (by omega)]at hsd1 hsp1
   rw[if_neg (by omega)]at hsp1
   exact⟨k+1,by omega,by omega,aQ h0 [0,1] _ _ (by decide) ⟨rfl,rfl,rfl,nQ hsp1,rfl,trivial⟩ ⟨oe rfl rfl,cX (congrArg (fun q=>some (⟨33,0,((Fr4.of q).tr false).map .t⟩:Ob)) (FN hsd1)),rfl⟩⟩
  refine sk ?_;refine rl ?_;refine o1 ?_;refine o1 ?_;refine WL.cast (t:=12) (u':=.int .i64 ((k+1:Nat):Int)) rfl (aH (by omega)) ?_
  refine o1 ?_;refine nl ?_;have hsd1:=Dn (l:=l) (k:=k) (by omega)
  have hsp1:=Do (l:=l) (k:=k) (by omega)
  rw[if_neg (by omega),if_pos (by omega)]at hsd1 hsp1
  exact⟨k+1,by omega,by omega,aQ h0 [0,1] _ _ (by decide) ⟨rfl,rfl,rfl,nQ hsp1,rfl,trivial⟩ ⟨oe rfl rfl,cX (congrArg (fun q=>some (⟨33,0,((Fr4.of q).tr false).map .t⟩:Ob)) (congrArg (fun n:Nat=>(n:Rat)) hsd1.symm)),rfl⟩⟩
 refine ex ?_;refine sq ?_;have hkk:k=l.length:=by omega
 have htk:l.take k=l:=List.take_of_length_le (by omega)
 have hsl:Sz (k+2) ((sD l:Nat):Rat):=by rw[htk]at hsd;exact hsd
 have hmx:=IZ hf
 refine WP.sub (aQ h0 [0,1] [(0,.one (tv (.string (aC l)))),(2,.one (.pt 0 0)),(3,.one (.pt 1 0)),(4,.one (tv (.int .i64 (sP l))))] [⟨33,0,[tv (.bool false),tv (.slice none 0 0),tv (.bool false),tv (.slice none 0 0)]⟩,⟨33,0,((Fr4.of ((sD l:Nat):Rat)).tr false).map .t⟩] (by decide) ⟨rfl,rfl,rfl,nQ (by rw[htk]),trivial⟩ ⟨oe rfl rfl,cX (congrArg (fun t:List Nat=>some (⟨33,0,((Fr4.of ((sD t:Nat):Rat)).tr false).map .t⟩:Ob)) htk),rfl⟩) ?_
 refine rd [0] (fun i=>[].contains i) mixed ?_
 refine dv 1 ?_;refine dv 2 ?_;refine WD.cast (t:=40) (u':=.int .i64 (((pl (aE l)).length:Nat):Int)) rfl (aH hmx) ?_;refine WO.two (i:=0) (j:=3) (by kernel_rfl) ?_ ?_
 ·refine eU 0 ?_;refine aJ 3 rfl (Xc (c:=(pl (aE l)).length) (by omega)) FP ⟨a1 rfl,rfl⟩ (qF (.of ((10^(pl (aE l)).length:Nat):Rat))) ?_
  refine aJ 4 rfl (xP (Qn.of (p:=((sD l:Nat):Rat)) (hsl.mono (M:=68719476736) (by omega))) (Qn.of (p:=((10^(pl (aE l)).length:Nat):Rat)) ((gQ _).mono (M:=68719476736) (by omega))) (hsl.mono (M:=17179869184) (by omega)) ((gQ _).mono (M:=17179869184) (by omega))) Fe ⟨aB rfl,aB rfl,rfl⟩ (.tup [qF (.of (((sD l:Nat):Rat)/((10^(pl (aE l)).length:Nat):Rat))),.one (tv (.int .i64 (if((10^(pl (aE l)).length:Nat):Rat)=0 then 20 else 0)))]) ?_
  refine df 5 ?_;refine df 6 ?_;refine df 7 ?_;refine aV 8 (by kernel_rfl) rfl rfl aA rfl rfl rfl rfl ⟨rfl,trivial⟩ ?_
  refine aS ?_;refine sq ?_;refine sq ?_;refine rl ?_;refine o1 ?_;refine o1 ?_ (hC:=(by rw[aG];show 0<l.length;omega))
  refine WL.cast (t:=46) (u':=.int .u8 (((nth l (0)):Nat):Int)) rfl (congrArg (fun n:Nat=>Value.int .u8 (n:Int)) (eI (i:=0) (by omega) (dK hl (by omega)))) ?_
  refine o1 ?_;refine nl ?_;refine bQ rfl (fun h5=>?_) (fun h5=>?_)
  ·refine rl ?_;refine ld ?_
   refine ca (Fc (Qn.of (p:=(((sD l:Nat):Rat)/((10^(pl (aE l)).length:Nat):Rat))) ((Eo hsl (gQ _)).mono (M:=68719476736) (by omega)))) Uc ⟨aB rfl,rfl⟩ (qF (.of (-(((sD l:Nat):Rat)/((10^(pl (aE l)).length:Nat):Rat))))) ?_
   refine st ?_;refine nl ?_;refine sq ?_;refine rl ?_;refine ld ?_;refine st ?_;refine nl ?_;refine rt ?_;have hng:cY l=true:=by rw[←sK hpos];exact decide_eq_true (by omega)
   have hq9:=wY hf
   rw[hng]at hq9;exact en (.inl rfl) rfl (aR (.agg (.cons (.id rfl) (.cons (.id rfl) (.cons (.id rfl) (.cons (.id rfl) .nil)))))) (by decide) (fun h=>by cases h) (by rw[←hq9];rfl)
  refine sk ?_;refine sq ?_;refine rl ?_;refine ld ?_;refine st ?_;refine nl ?_;refine rt ?_;have hng:cY l=false:=by rw[←sK hpos];exact decide_eq_false (by omega)
  have hq9:=wY hf
  rw[hng]at hq9;exact en (.inl rfl) rfl (aR (.agg (.cons (.id rfl) (.cons (.id rfl) (.cons (.id rfl) (.cons (.id rfl) .nil)))))) (by decide) (fun h=>by cases h) (by rw[←hq9];rfl)
 refine cZ 3 rfl (Xc (c:=(pl (aE l)).length) (by omega)) FP ⟨a1 rfl,rfl⟩ (qF (.of ((10^(pl (aE l)).length:Nat):Rat))) ?_
 refine WO.one (by kernel_rfl) (eU 0 ?_)
 refine aJ 4 rfl (xP (Qn.of (p:=((sD l:Nat):Rat)) (hsl.mono (M:=68719476736) (by omega))) (Qn.of (p:=((10^(pl (aE l)).length:Nat):Rat)) ((gQ _).mono (M:=68719476736) (by omega))) (hsl.mono (M:=17179869184) (by omega)) ((gQ _).mono (M:=17179869184) (by omega))) Fe ⟨aB rfl,aB rfl,rfl⟩ (.tup [qF (.of (((sD l:Nat):Rat)/((10^(pl (aE l)).length:Nat):Rat))),.one (tv (.int .i64 (if((10^(pl (aE l)).length:Nat):Rat)=0 then 20 else 0)))]) ?_
 refine df 5 ?_;refine df 6 ?_;refine df 7 ?_;refine aV 8 (by kernel_rfl) rfl rfl aA rfl rfl rfl rfl ⟨rfl,trivial⟩ ?_
 refine aS ?_;refine sq ?_;refine sq ?_;refine rl ?_;refine o1 ?_;refine o1 ?_ (hC:=(by rw[aG];show 0<l.length;omega))
 refine WL.cast (t:=46) (u':=.int .u8 (((nth l (0)):Nat):Int)) rfl (congrArg (fun n:Nat=>Value.int .u8 (n:Int)) (eI (i:=0) (by omega) (dK hl (by omega)))) ?_
 refine o1 ?_;refine nl ?_;refine bQ rfl (fun h6=>?_) (fun h6=>?_)
 ·refine rl ?_;refine ld ?_
  refine ca (Fc (Qn.of (p:=(((sD l:Nat):Rat)/((10^(pl (aE l)).length:Nat):Rat))) ((Eo hsl (gQ _)).mono (M:=68719476736) (by omega)))) Uc ⟨aB rfl,rfl⟩ (qF (.of (-(((sD l:Nat):Rat)/((10^(pl (aE l)).length:Nat):Rat))))) ?_
  refine st ?_;refine nl ?_;refine sq ?_;refine rl ?_;refine ld ?_;refine st ?_;refine nl ?_;refine rt ?_;have hng:cY l=true:=by rw[←sK hpos];exact decide_eq_true (by omega)
  have hq9:=wY hf
  rw[hng]at hq9;exact en (.inl rfl) rfl (aR (.agg (.cons (.id rfl) (.cons (.id rfl) (.cons (.id rfl) (.cons (.id rfl) .nil)))))) (by decide) (fun h=>by cases h) (by rw[←hq9];rfl)
 refine sk ?_;refine sq ?_;refine rl ?_;refine ld ?_;refine st ?_;refine nl ?_;refine rt ?_;have hng:cY l=false:=by rw[←sK hpos];exact decide_eq_false (by omega)
 have hq9:=wY hf
 rw[hng]at hq9;exact en (.inl rfl) rfl (aR (.agg (.cons (.id rfl) (.cons (.id rfl) (.cons (.id rfl) (.cons (.id rfl) .nil)))))) (by decide) (fun h=>by cases h) (by rw[←hq9];rfl)
theorem OF {l:List Nat}(h:gB (aE l)=false):gN l=false:=by unfold gN;rw[h];rfl
theorem OG {l:List Nat}(h:(cY l&&wT (aE l))=true):gN l=false:=by unfold gN;rw[h,Bool.not_true,Bool.and_false]
theorem FQ {l:List Nat}(h1:gB (aE l)=true) (h:(cY l&&wT (aE l))=false):gN l=true:=by unfold gN;rw[h1,h];rfl
theorem zP {l:List Nat}{m:Nat}(hl:Lim 256 l) (hn9:l.length≤1000000):aD false Tryz.prog 33 [] [.one (tv (.string (aC l))),.one (tv (.int .i64 ((m:Nat):Int)))] (aL (.tup [qF (.of (cP l m)),.one (tv (.int .i64 (dY l m)))])):=by
 refine bE Tryz.func33 rfl Tryz.ntmps33 rfl aA rfl fun N9 w9 c0 h0=>?_
 refine sq ?_;refine rl ?_;refine al 0 ?_;refine o1 ?_;refine nl ?_;refine sq ?_;refine rl ?_;refine o1 ?_
 refine ca (FL hl hn9) OH ⟨a1 rfl,rfl⟩ (.tup [.one (tv (.int .i64 ((rU l:Nat):Int))),.one (tv (.int .i64 ((rV l:Nat):Int))),.one (tv (.bool (uV l)))]) ?_;(iterate 7 refine o1 ?_)
 refine nl ?_;refine sq ?_;refine sq ?_;refine rl ?_;refine o1 ?_;refine WL.splitb (t:=17) rfl (fun h1=>?_) (fun h1=>?_)
 ·(iterate 6 refine o1 ?_);refine nl ?_;refine bQ rfl (fun h2=>?_) (fun h2=>?_)
  ·refine sq ?_;refine rl ?_;refine ca (fT) mN rfl (qF (.of 0)) ?_;refine st ?_;refine o1 ?_;refine nl ?_;refine rt ?_
   have he:dY l m=60:=xJ (.inr (by have h8:gB (aE l)=true:=(by rw[←zB];exact h1);have h9:=(Wc h8).2;omega))
   have hq:cP l m=0:=(if_neg (by rw[he];decide))
   exact en (.inl rfl) rfl (cV (.cons (.agg (.cons (.id rfl) (.cons (.id rfl) (.cons (.id rfl) (.cons (.id rfl) .nil))))) (.cons (aN _) .nil))) (by decide) (fun h=>by cases h) (by rw[he,hq];rfl)
  refine sk ?_;refine sq ?_;have hf:gB (aE l)=true:=by rw[←zB];exact h1
  have hpos:=Ir hf
  obtain⟨hfn,hfk⟩:=Wc hf
  have hwp:=sH (aE l)
  have hal:=pN l
  refine rl ?_;refine o1 ?_;refine o1 ?_ (hC:=(by rw[aG];show 0<l.length;omega))
  refine WL.cast (t:=26) (u':=.int .u8 (((nth l (0)):Nat):Int)) rfl (congrArg (fun n:Nat=>Value.int .u8 (n:Int)) (eI (i:=0) (by omega) (dK hl (by omega)))) ?_
  refine o1 ?_;refine WL.cast (t:=27) (u':=.bool (cY l)) rfl (congrArg Value.bool ((sK hpos)▸(decide_eq_decide.2 (by omega)))) ?_
  refine o1 ?_;refine nl ?_;refine sq ?_;refine sq ?_;refine rl ?_;refine o1 ?_;refine nl ?_;refine bl ?_
  refine lp (γ:=Nat) (fun s=>cK [(0,.one (tv (.string (aC l)))),(4,.one (.pt 0 0)),(6,.one (tv (.int .i64 (((rU l):Nat):Int)))),(7,.one (tv (.int .i64 (((rV l):Nat):Int)))),(9,.one (tv (.bool (cY l&&(l.take s).all iF)))),(10,.one (tv (.int .i64 ((s:Nat):Int))))]) (fun s=>[(⟨33,0,[tv (.bool false),tv (.slice none 0 0),tv (.bool false),tv (.slice none 0 0)]⟩:Ob)].map some) (fun s=>s≤l.length) (fun s=>l.length-s) 0 (Nat.zero_le _) (aQ h0 [0] _ _ (by decide) ⟨rfl,rfl,rfl,rfl,Qb (by rw[List.take_zero];exact Bool.and_true _),rfl,trivial⟩ ⟨oe rfl rfl,rfl⟩) ?_
  rintro k hk;refine sq ?_;refine sq ?_;refine rl ?_;(iterate 3 refine o1 ?_)
  refine WL.cast (t:=30) (u':=.int .i64 ((l.length:Nat):Int)) rfl (congrArg (fun n:Nat=>Value.int .i64 (n:Int)) (aG _)) ?_
  refine o1 ?_;refine nl ?_;refine bQ rfl (fun h3=>?_) (fun h3=>?_)
  ·refine sk ?_;refine sq ?_;refine bl ?_;refine rl ?_;refine o1 ?_;refine o1 ?_;refine WL.splitb (t:=35) rfl (fun h4=>?_) (fun h4=>?_)
   ·refine o1 ?_;refine o1 ?_;refine o1 ?_ (hC:=(by rw[aG];omega))
    refine WL.cast (t:=38) (u':=.int .u8 (((nth l (k)):Nat):Int)) rfl (congrArg (fun n:Nat=>Value.int .u8 (n:Int)) (eI (i:=k) (by omega) (dK hl (by omega)))) ?_
    refine o1 ?_;refine o1 ?_;refine WL.split (t:=40) rfl (fun h5=>?_) (fun h5=>?_)
    ·(iterate 4 refine cL ?_);refine o1 ?_;refine o1 ?_;(iterate 4 refine cL ?_);(iterate 3 refine o1 ?_);refine nl ?_;refine rl ?_;refine o1 ?_;refine o1 ?_
     refine WL.cast (t:=33) (u':=.int .i64 ((k+1:Nat):Int)) rfl (aH (by omega)) ?_
     refine o1 ?_;refine nl ?_;have hns:(cY l&&(l.take (k+1)).all iF)=((cY l&&(l.take k).all iF)&&iF (nth l k)):=by rw[Cb (by omega),Bool.and_assoc]
     exact⟨k+1,by omega,by omega,aQ h0 [0] _ _ (by decide) ⟨rfl,rfl,rfl,rfl,Qb (by rw[hns,h4,Bool.true_and];unfold iF;rw[Bool.eq_iff_iff];simp only[Bool.or_eq_true,decide_eq_true_eq,eq_self_iff_true,iff_true];omega),rfl,trivial⟩ ⟨oe rfl rfl,rfl⟩⟩
    refine o1 ?_;refine o1 ?_;refine o1 ?_ (hC:=(by rw[aG];omega))
    refine WL.cast (t:=43) (u':=.int .u8 (((nth l (k)):Nat):Int)) rfl (congrArg (fun n:Nat=>Value.int .u8 (n:Int)) (eI (i:=k) (by omega) (dK hl (by omega)))) ?_
    (iterate 3 refine o1 ?_);refine WL.split (t:=46) rfl (fun h6=>?_) (fun h6=>?_)
    ·(iterate 4 refine cL ?_);(iterate 3 refine o1 ?_);refine nl ?_;refine rl ?_;refine o1 ?_;refine o1 ?_
     refine WL.cast (t:=33) (u':=.int .i64 ((k+1:Nat):Int)) rfl (aH (by omega)) ?_
     refine o1 ?_;refine nl ?_;have hns:(cY l&&(l.take (k+1)).all iF)=((cY l&&(l.take k).all iF)&&iF (nth l k)):=by rw[Cb (by omega),Bool.and_assoc]
     exact⟨k+1,by omega,by omega,aQ h0 [0] _ _ (by decide) ⟨rfl,rfl,rfl,rfl,Qb (by rw[hns,h4,Bool.true_and];unfold iF;rw[Bool.eq_iff_iff];simp only[Bool.or_eq_true,decide_eq_true_eq,eq_self_iff_true,iff_true];omega),rfl,trivial⟩ ⟨oe rfl rfl,rfl⟩⟩
    refine o1 ?_;refine o1 ?_;refine o1 ?_ (hC:=(by rw[aG];omega))
    refine WL.cast (t:=49) (u':=.int .u8 (((nth l (k)):Nat):Int)) rfl (congrArg (fun n:Nat=>Value.int .u8 (n:Int)) (eI (i:=k) (by omega) (dK hl (by omega)))) ?_
    (iterate 4 refine o1 ?_);refine nl ?_;refine rl ?_;refine o1 ?_;refine o1 ?_;refine WL.cast (t:=33) (u':=.int .i64 ((k+1:Nat):Int)) rfl (aH (by omega)) ?_
    refine o1 ?_;refine nl ?_;have hns:(cY l&&(l.take (k+1)).all iF)=((cY l&&(l.take k).all iF)&&iF (nth l k)):=by rw[Cb (by omega),Bool.and_assoc]
    exact⟨k+1,by omega,by omega,aQ h0 [0] _ _ (by decide) ⟨rfl,rfl,rfl,rfl,Qb (by rw[hns,h4,Bool.true_and];unfold iF;rw[Bool.eq_iff_iff];simp only[Bool.or_eq_true,decide_eq_true_eq,eq_self_iff_true,iff_true];omega),rfl,trivial⟩ ⟨oe rfl rfl,rfl⟩⟩
   (iterate 16 refine cL ?_);refine o1 ?_;refine o1 ?_;refine nl ?_;refine rl ?_;refine o1 ?_;refine o1 ?_
   refine WL.cast (t:=33) (u':=.int .i64 ((k+1:Nat):Int)) rfl (aH (by omega)) ?_
   refine o1 ?_;refine nl ?_;have hns:(cY l&&(l.take (k+1)).all iF)=((cY l&&(l.take k).all iF)&&iF (nth l k)):=by rw[Cb (by omega),Bool.and_assoc]
   exact⟨k+1,by omega,by omega,aQ h0 [0] _ _ (by decide) ⟨rfl,rfl,rfl,rfl,Qb (by rw[hns,h4];rfl),rfl,trivial⟩ ⟨oe rfl rfl,rfl⟩⟩
  refine ex ?_;refine sq ?_;refine sq ?_;have htk:l.take k=l:=List.take_of_length_le (by omega)
  have hnu:(cY l&&(l.take k).all iF)=(cY l&&wT (aE l)):=by rw[htk];exact DC hf
  refine rl ?_;refine o1 ?_;refine nl ?_;refine jV rfl (fun h7=>?_) (fun h7=>?_)
  ·refine sq ?_;refine rl ?_;refine ca (fT) mN rfl (qF (.of 0)) ?_;refine st ?_;refine o1 ?_;refine nl ?_;refine rt ?_
   have he:dY l m=60:=xJ (.inl (OG (hnu.symm.trans h7)))
   have hq:cP l m=0:=(if_neg (by rw[he];decide))
   exact en (.inl rfl) rfl (cV (.cons (.agg (.cons (.id rfl) (.cons (.id rfl) (.cons (.id rfl) (.cons (.id rfl) .nil))))) (.cons (aN _) .nil))) (by decide) (fun h=>by cases h) (by rw[he,hq];rfl)
  refine sk ?_;refine sq ?_;refine sq ?_;refine rl ?_;(iterate 3 refine o1 ?_);refine WL.cast (t:=57) (u':=.int .i64 (((rU l)+(rV l):Nat):Int)) rfl (aH (by omega)) ?_
  refine o1 ?_;refine nl ?_;refine bQ rfl (fun h8=>?_) (fun h8=>?_)
  ·refine sq ?_;refine rl ?_;refine ca (fT) mN rfl (qF (.of 0)) ?_;refine st ?_;refine o1 ?_;refine nl ?_;refine rt ?_;have hok:gN l=true:=FQ hf (hnu.symm.trans h7)
   have he:dY l m=3:=EI hok (by omega) (by omega)
   have hq:cP l m=0:=(if_neg (by rw[he];decide))
   exact en (.inl rfl) rfl (cV (.cons (.agg (.cons (.id rfl) (.cons (.id rfl) (.cons (.id rfl) (.cons (.id rfl) .nil))))) (.cons (aN _) .nil))) (by decide) (fun h=>by cases h) (by rw[he,hq];rfl)
  refine sk ?_;refine sq ?_;refine rl ?_;refine o1 ?_;refine ca (FO hl hn9 hf) OI ⟨a1 rfl,rfl⟩ (qF (.of (uT l))) ?_;refine st ?_;refine o1 ?_;refine nl ?_;refine rt ?_
  have hok:gN l=true:=FQ hf (hnu.symm.trans h7)
  have he:dY l m=0:=EJ hok (by omega) (by omega)
  have hq:cP l m=uT l:=if_pos he
  exact en (.inl rfl) rfl (cV (.cons (.agg (.cons (.id rfl) (.cons (.id rfl) (.cons (.id rfl) (.cons (.id rfl) .nil))))) (.cons (aN _) .nil))) (by decide) (fun h=>by cases h) (by rw[he,hq];rfl)
 refine o1 ?_;refine o1 ?_;(iterate 3 refine cL ?_);refine o1 ?_;refine nl ?_;refine gJ rfl ?_;refine sq ?_;refine rl ?_;refine ca (fT) mN rfl (qF (.of 0)) ?_;refine st ?_
 refine o1 ?_;refine nl ?_;refine rt ?_;have he:dY l m=60:=xJ (.inl (OF (by rw[←zB];exact h1)))
 have hq:cP l m=0:=(if_neg (by rw[he];decide))
 exact en (.inl rfl) rfl (cV (.cons (.agg (.cons (.id rfl) (.cons (.id rfl) (.cons (.id rfl) (.cons (.id rfl) .nil))))) (.cons (aN _) .nil))) (by decide) (fun h=>by cases h) (by rw[he,hq];rfl)
theorem AH {l:List Nat}(hl:Lim 256 l) (hn9:l.length≤1000000):aD false Tryz.prog 11 [] [.one (tv (.string (aC l)))] (aL (.tup [qF (.of (cP l l.length)),.one (tv (.int .i64 (dY l l.length)))])):=by
 refine bE Tryz.func11 rfl Tryz.ntmps11 rfl aA rfl fun N9 w9 c0 h0=>?_
 refine sq ?_;refine rl ?_;refine al 0 ?_;refine o1 ?_;refine nl ?_;refine sq ?_;refine rl ?_;(iterate 3 refine o1 ?_)
 refine WL.cast (t:=6) (u':=.int .i64 ((l.length:Nat):Int)) rfl (congrArg (fun n:Nat=>Value.int .i64 (n:Int)) (aG _)) ?_
 refine ca (zP (l:=l) (m:=l.length) hl hn9) Ud ⟨a1 rfl,a1 rfl,rfl⟩ (.tup [qF (.of (cP l l.length)),.one (tv (.int .i64 (dY l l.length)))]) ?_;refine o1 ?_;refine o1 ?_;refine st ?_
 refine o1 ?_;refine nl ?_;refine rt ?_
 exact en (.inl rfl) rfl (cV (.cons (.agg (.cons (.id rfl) (.cons (.id rfl) (.cons (.id rfl) (.cons (.id rfl) .nil))))) (.cons (aN _) .nil))) (by decide) (fun h=>by cases h) rfl
theorem Ue {l:List Nat}(hl:Lim 256 l) (hn9:l.length≤1000000):aD false Tryz.prog 12 [] [.one (tv (.string (aC l)))] (aL (.tup [qF (.of (cP l 2)),.one (tv (.int .i64 (dY l 2)))])):=by
 refine bE Tryz.func12 rfl Tryz.ntmps12 rfl aA rfl fun N9 w9 c0 h0=>?_
 refine sq ?_;refine rl ?_;refine al 0 ?_;refine o1 ?_;refine nl ?_;refine sq ?_;refine rl ?_;refine o1 ?_
 refine ca (zP (l:=l) (m:=2) hl hn9) Ud ⟨a1 rfl,a1 rfl,rfl⟩ (.tup [qF (.of (cP l 2)),.one (tv (.int .i64 (dY l 2)))]) ?_;refine o1 ?_;refine o1 ?_;refine st ?_;refine o1 ?_
 refine nl ?_;refine rt ?_
 exact en (.inl rfl) rfl (cV (.cons (.agg (.cons (.id rfl) (.cons (.id rfl) (.cons (.id rfl) (.cons (.id rfl) .nil))))) (.cons (aN _) .nil))) (by decide) (fun h=>by cases h) rfl
theorem Mr {l:List Nat}{c:Nat}(h:0<l.length):iC c l=true↔nth l (l.length-1)=c:=by
 unfold iC
 rw[decide_eq_true_eq]
 have e:l.drop (l.length-1)=[nth l (l.length-1)]:=by
  rw[List.drop_eq_getElem_cons (by omega),show l.length-1+1=l.length by omega,List.drop_length,bX (by omega)]
 rw[e]
 simp
theorem Ms {l:List Nat}(h:0<l.length) (h2:iC 37 l=true) (h3:¬nth l 0=45):cY (cQ 37 l)=false:=by
 rw[←sN h2]
 refine decide_eq_false fun h4=>?_
 have h5:=congrArg List.length h4
 rw[List.length_take,List.length_take]at h5
 have h6:1<l.length:=by simp at h5;omega
 rw[List.take_take,Nat.min_eq_left (by omega)]at h4
 exact h3 ((qV h).1 h4)
theorem Ff {l:List Nat}{m:Nat}(h:cY l=false):¬cP l m<0:=by
 unfold cP
 split
 ·unfold uT
  rw[h,Rat.not_lt]
  exact Rat.divInt_nonneg (by show(0:Int)≤((_:Nat):Int);omega) (Int.natCast_nonneg _)
 exact Rat.not_lt.2 Rat.le_refl
theorem FS {l:List Nat}(h:0<l.length) (h2:nth l 0=45):eP l=60:=by
 cases hen:iC 37 l with
 | false=>exact kJ (.inl hen)
 | true=>
  have hn:cY (cQ 37 l)=true:=by
   have h9:=(Mr h).1 hen
   rw[←sN hen]
   have h6:1<l.length:=by
    rcases Nat.lt_or_ge 1 l.length with h1 | h1
    ·exact h1
    rw[show l.length-1=0 by omega]at h9
    omega
   refine decide_eq_true ?_
   rw[List.take_take,Nat.min_eq_left (by omega)]
   exact(qV h).2 h2
  by_cases he:dY (cQ 37 l) 4=0
  ·refine kJ (.inr (.inr (.inl ?_)))
   have hok:gN (cQ 37 l)=true:=by
    unfold dY at he
    split at he
    ·rename_i h1;exact h1.1
    cases he
   unfold cP uT
   rw[if_pos he,hn]
   have hnz:bU (wh (aE (cQ 37 l))++pl (aE (cQ 37 l)))≠0:=fun h0=>by
    unfold gN wT at hok
    rw[hn,Zd (Ta _),h0]at hok
    simp at hok
   have hp:0<10^(pl (aE (cQ 37 l))).length:=Nat.pow_pos (by omega)
   have e:∀V k:Nat,V≠0→0<k→Rat.divInt (-(V:Int)) (k:Int)<0:=fun V k hV hk=>by
    rw[←lI]
    have h2:(0:Rat)<(k:Rat):=by exact_mod_cast hk
    have h3:=uU (-(V:Int)) (k:Int) (by omega)
    rw[lI]
    by_cases h4:Rat.divInt (-(V:Int)) (k:Int)<0
    ·exact h4
    exfalso
    have h4:=Rat.not_lt.1 h4
    have h5:=Rat.mul_nonneg h4 (Rat.le_of_lt h2)
    rw[Rat.intCast_natCast]at h3
    rw[h3]at h5
    have h6:(0:Int)≤-(V:Int):=by exact_mod_cast h5
    omega
   exact e _ _ hnz hp
  exact kJ (.inr (.inl he))
theorem AI {l:List Nat}(hl:Lim 256 l) (hn9:l.length≤1000000):aD false Tryz.prog 13 [] [.one (tv (.string (aC l)))] (aL (.tup [qF (.of (fC l)),.one (tv (.int .i64 (eP l)))])):=by
 refine bE Tryz.func13 rfl Tryz.ntmps13 rfl aA rfl fun N9 w9 c0 h0=>?_
 have hX:Sz 41 (cP (cQ 37 l) 4):=sW _ 4
 refine sq ?_;refine rl ?_;refine al 0 ?_;refine o1 ?_;refine nl ?_;refine sq ?_;refine sq ?_;refine rl ?_;refine o1 ?_;refine o1 ?_
 refine WL.cast (t:=9) (u':=.bool (decide (l=[]))) rfl (congrArg Value.bool (gZ hl)) ?_;refine o1 ?_;refine WL.splitb (t:=10) rfl (fun h1=>?_) (fun h1=>?_)
 ·(iterate 3 refine cL ?_);refine o1 ?_;refine o1 ?_;(iterate 6 refine cL ?_);refine o1 ?_;refine nl ?_;refine gJ rfl ?_;refine sq ?_;refine rl ?_
  refine ca (fT) mN rfl (qF (.of 0)) ?_;refine st ?_;refine o1 ?_;refine nl ?_;refine rt ?_;have he:eP l=60:=kJ (.inl (by rw[of_decide_eq_true h1];rfl))
  have hq:fC l=0:=if_neg (by rw[he];decide)
  exact en (.inl rfl) rfl (cV (.cons (.agg (.cons (.id rfl) (.cons (.id rfl) (.cons (.id rfl) (.cons (.id rfl) .nil))))) (.cons (aN _) .nil))) (by decide) (fun h=>by cases h) (by rw[he,hq];rfl)
 refine o1 ?_;have hp9:=pO h1
 refine o1 ?_ (hC:=(by rw[aG];show 0<l.length;omega))
 refine WL.cast (t:=12) (u':=.int .u8 (((nth l (0)):Nat):Int)) rfl (congrArg (fun n:Nat=>Value.int .u8 (n:Int)) (eI (i:=0) (by omega) (dK hl (by omega)))) ?_
 (iterate 3 refine o1 ?_);refine WL.split (t:=15) rfl (fun h2=>?_) (fun h2=>?_)
 ·(iterate 6 refine cL ?_);refine o1 ?_;refine nl ?_;refine gJ rfl ?_;refine sq ?_;refine rl ?_;refine ca (fT) mN rfl (qF (.of 0)) ?_;refine st ?_;refine o1 ?_;refine nl ?_
  refine rt ?_;have he:eP l=60:=FS hp9 (by omega)
  have hq:fC l=0:=if_neg (by rw[he];decide)
  exact en (.inl rfl) rfl (cV (.cons (.agg (.cons (.id rfl) (.cons (.id rfl) (.cons (.id rfl) (.cons (.id rfl) .nil))))) (.cons (aN _) .nil))) (by decide) (fun h=>by cases h) (by rw[he,hq];rfl)
 (iterate 3 refine o1 ?_);refine WL.cast (t:=18) (u':=.int .i64 ((l.length:Nat):Int)) rfl (congrArg (fun n:Nat=>Value.int .i64 (n:Int)) (aG _)) ?_
 refine o1 ?_;refine WL.cast (t:=19) (u':=.int .i64 ((l.length-1:Nat):Int)) rfl (aH (by omega)) ?_
 refine o1 ?_ (hC:=(by rw[aG];omega))
 refine WL.cast (t:=20) (u':=.int .u8 (((nth l (l.length-1)):Nat):Int)) rfl (congrArg (fun n:Nat=>Value.int .u8 (n:Int)) (eI (i:=l.length-1) (by omega) (dK hl (by omega)))) ?_
 refine o1 ?_;refine o1 ?_;refine nl ?_;refine bQ rfl (fun h3=>?_) (fun h3=>?_)
 ·refine sq ?_;refine rl ?_;refine ca (fT) mN rfl (qF (.of 0)) ?_;refine st ?_;refine o1 ?_;refine nl ?_;refine rt ?_
  have he:eP l=60:=kJ (.inl (Bool.eq_false_iff.2 fun h9=>by have:=(Mr hp9).1 h9;omega))
  have hq:fC l=0:=if_neg (by rw[he];decide)
  exact en (.inl rfl) rfl (cV (.cons (.agg (.cons (.id rfl) (.cons (.id rfl) (.cons (.id rfl) (.cons (.id rfl) .nil))))) (.cons (aN _) .nil))) (by decide) (fun h=>by cases h) (by rw[he,hq];rfl)
 refine sk ?_;refine sq ?_;have hen:iC 37 l=true:=(Mr hp9).2 (by omega)
 refine rl ?_;(iterate 3 refine o1 ?_);refine WL.cast (t:=27) (u':=.int .i64 ((l.length:Nat):Int)) rfl (congrArg (fun n:Nat=>Value.int .i64 (n:Int)) (aG _)) ?_
 refine o1 ?_;refine WL.cast (t:=28) (u':=.int .i64 ((l.length-1:Nat):Int)) rfl (aH (by omega)) ?_
 refine o1 ?_ (hC:=(by rw[aG];omega))
 refine WL.cast (t:=29) (u':=.string (aC (cQ 37 l))) rfl (congrArg Value.string ((hG _ 0 _).trans (congrArg aC (sN hen)))) ?_
 refine ca (zP (l:=(cQ 37 l)) (m:=4) (Pd hl) (Nat.le_trans Ds hn9)) Ud ⟨a1 rfl,a1 rfl,rfl⟩ (.tup [qF (.of (cP (cQ 37 l) 4)),.one (tv (.int .i64 (dY (cQ 37 l) 4)))]) ?_
 (iterate 3 refine o1 ?_);refine al 1 ?_;refine st ?_;refine o1 ?_;refine nl ?_;refine sq ?_;refine sq ?_;refine rd [0,1] (fun i=>[].contains i) mixed ?_
 refine dv 0 ?_;refine dv 1 ?_;refine dv 2 ?_;refine WD.split (t:=35) rfl rfl (fun h4=>?_) (fun h4=>?_)
 ·refine dH 3 ?_;refine dH 4 ?_;refine dH 5 ?_;refine dH 6 ?_;refine dv 7 ?_;refine aS ?_;refine gJ rfl ?_;refine sq ?_;refine rl ?_;refine ca (fT) mN rfl (qF (.of 0)) ?_
  refine st ?_;refine o1 ?_;refine nl ?_;refine rt ?_;have he:eP l=60:=kJ (.inr (.inl (by omega)))
  have hq:fC l=0:=if_neg (by rw[he];decide)
  exact en (.inl rfl) rfl (cV (.cons (.agg (.cons (.id rfl) (.cons (.id rfl) (.cons (.id rfl) (.cons (.id rfl) .nil))))) (.cons (aN _) .nil))) (by decide) (fun h=>by cases h) (by rw[he,hq];rfl)
 refine aX 3 ?_;refine aJ 4 rfl (jP (n:=100) (by omega) (by omega)) vV ⟨a1 rfl,rfl⟩ (qF (.of ((100:Int):Rat))) ?_
 refine aJ 5 rfl (Qa (Qn.of (p:=(cP (cQ 37 l) 4)) (hX.mono (M:=68719476736) (by omega))) (Qn.of (p:=((100:Int):Rat)) (cS (by omega) (by omega))) (hX.mono (M:=17179869184) (by omega)) ((cS (by omega) (by omega)).mono (M:=17179869184) (by omega))) FT ⟨aB rfl,aB rfl,rfl⟩ (.one (tv (.int .i64 ((cP (cQ 37 l) 4)-((100:Int):Rat)).num.sign))) ?_
 refine df 6 ?_;refine df 7 ?_;refine aS ?_;refine bQ rfl (fun h5=>?_) (fun h5=>?_)
 ·refine sq ?_;refine rl ?_;refine ca (fT) mN rfl (qF (.of 0)) ?_;refine st ?_;refine o1 ?_;refine nl ?_;refine rt ?_
  have he:eP l=60:=kJ (.inr (.inr (.inr (DJ h5))))
  have hq:fC l=0:=if_neg (by rw[he];decide)
  exact en (.inl rfl) rfl (cV (.cons (.agg (.cons (.id rfl) (.cons (.id rfl) (.cons (.id rfl) (.cons (.id rfl) .nil))))) (.cons (aN _) .nil))) (by decide) (fun h=>by cases h) (by rw[he,hq];rfl)
 refine sk ?_;refine sq ?_;refine rd [0,1] (fun i=>[8].contains i) mixed ?_
 refine aX 0 ?_;refine WO.two (i:=1) (j:=6) (by kernel_rfl) ?_ ?_
 ·refine cZ 1 rfl (jP (n:=100) (by omega) (by omega)) vV ⟨a1 rfl,rfl⟩ (qF (.of ((100:Int):Rat))) ?_
  refine WO.two (i:=2) (j:=6) (by kernel_rfl) ?_ ?_
  ·refine cZ 2 rfl (xP (Qn.of (p:=(cP (cQ 37 l) 4)) (hX.mono (M:=68719476736) (by omega))) (Qn.of (p:=((100:Int):Rat)) (cS (by omega) (by omega))) (hX.mono (M:=17179869184) (by omega)) ((cS (by omega) (by omega)).mono (M:=17179869184) (by omega))) Fe ⟨aB rfl,aB rfl,rfl⟩ (.tup [qF (.of ((cP (cQ 37 l) 4)/((100:Int):Rat))),.one (tv (.int .i64 (if((100:Int):Rat)=0 then 20 else 0)))]) ?_
   refine df 3 ?_;refine df 4 ?_;refine df 5 ?_;refine fA (key:=2) 6 (by kernel_rfl) rfl rfl aA rfl ⟨rfl,rfl,trivial⟩ ?_
   refine aV 7 (by kernel_rfl) rfl rfl aA rfl rfl rfl rfl ⟨rfl,rfl,trivial⟩ ?_
   refine dR 8 (by kernel_rfl) rfl rfl aA rfl (by trivial) ?_ (fun h=>by first | rfl | cases h)
   refine aS ?_;refine sq ?_;refine rl ?_;refine ld ?_;refine st ?_;refine o1 ?_;refine nl ?_;refine rt ?_
   have he:eP l=0:=Es hen (by omega) (Ff (Ms hp9 hen (by omega))) (fun h9=>h5 (Io h9))
   have hq:fC l=(cP (cQ 37 l) 4)/((100:Int):Rat):=if_pos he
   exact en (.inl rfl) rfl (cV (.cons (.agg (.cons (.id rfl) (.cons (.id rfl) (.cons (.id rfl) (.cons (.id rfl) .nil))))) (.cons (aN _) .nil))) (by decide) (fun h=>by cases h) (by rw[he,hq];rfl)
  refine bR (key:=2) 6 rfl rfl aA rfl ⟨rfl,rfl,trivial⟩ ?_
  refine aJ 2 rfl (xP (Qn.of (p:=(cP (cQ 37 l) 4)) (hX.mono (M:=68719476736) (by omega))) (Qn.of (p:=((100:Int):Rat)) (cS (by omega) (by omega))) (hX.mono (M:=17179869184) (by omega)) ((cS (by omega) (by omega)).mono (M:=17179869184) (by omega))) Fe ⟨aB rfl,aB rfl,rfl⟩ (.tup [qF (.of ((cP (cQ 37 l) 4)/((100:Int):Rat))),.one (tv (.int .i64 (if((100:Int):Rat)=0 then 20 else 0)))]) ?_
  refine df 3 ?_;refine df 4 ?_;refine df 5 ?_;refine aV 7 (by kernel_rfl) rfl rfl aA rfl rfl rfl rfl ⟨rfl,rfl,trivial⟩ ?_
  refine dR 8 (by kernel_rfl) rfl rfl aA rfl (by trivial) ?_ (fun h=>by first | rfl | cases h)
  refine aS ?_;refine sq ?_;refine rl ?_;refine ld ?_;refine st ?_;refine o1 ?_;refine nl ?_;refine rt ?_
  have he:eP l=0:=Es hen (by omega) (Ff (Ms hp9 hen (by omega))) (fun h9=>h5 (Io h9))
  have hq:fC l=(cP (cQ 37 l) 4)/((100:Int):Rat):=if_pos he
  exact en (.inl rfl) rfl (cV (.cons (.agg (.cons (.id rfl) (.cons (.id rfl) (.cons (.id rfl) (.cons (.id rfl) .nil))))) (.cons (aN _) .nil))) (by decide) (fun h=>by cases h) (by rw[he,hq];rfl)
 refine bR (key:=2) 6 rfl rfl aA rfl ⟨rfl,rfl,trivial⟩ ?_;refine aJ 1 rfl (jP (n:=100) (by omega) (by omega)) vV ⟨a1 rfl,rfl⟩ (qF (.of ((100:Int):Rat))) ?_
 refine aJ 2 rfl (xP (Qn.of (p:=(cP (cQ 37 l) 4)) (hX.mono (M:=68719476736) (by omega))) (Qn.of (p:=((100:Int):Rat)) (cS (by omega) (by omega))) (hX.mono (M:=17179869184) (by omega)) ((cS (by omega) (by omega)).mono (M:=17179869184) (by omega))) Fe ⟨aB rfl,aB rfl,rfl⟩ (.tup [qF (.of ((cP (cQ 37 l) 4)/((100:Int):Rat))),.one (tv (.int .i64 (if((100:Int):Rat)=0 then 20 else 0)))]) ?_
 refine df 3 ?_;refine df 4 ?_;refine df 5 ?_;refine aV 7 (by kernel_rfl) rfl rfl aA rfl rfl rfl rfl ⟨rfl,rfl,trivial⟩ ?_
 refine dR 8 (by kernel_rfl) rfl rfl aA rfl (by trivial) ?_ (fun h=>by first | rfl | cases h)
 refine aS ?_;refine sq ?_;refine rl ?_;refine ld ?_;refine st ?_;refine o1 ?_;refine nl ?_;refine rt ?_
 have he:eP l=0:=Es hen (by omega) (Ff (Ms hp9 hen (by omega))) (fun h9=>h5 (Io h9))
 have hq:fC l=(cP (cQ 37 l) 4)/((100:Int):Rat):=if_pos he
 exact en (.inl rfl) rfl (cV (.cons (.agg (.cons (.id rfl) (.cons (.id rfl) (.cons (.id rfl) (.cons (.id rfl) .nil))))) (.cons (aN _) .nil))) (by decide) (fun h=>by cases h) (by rw[he,hq];rfl)
section
variable {p:Rat}{j:Nat}
end
theorem FU (p q:Rat):decide ((p-q).num.sign=0)=decide (p=q):=by
 refine decide_eq_decide.2 ?_
 rw[Int.sign_eq_zero_iff_zero,Rat.num_eq_zero]
 constructor
 ·intro h
  grind
 intro h
 rw[h]
 grind
theorem AJ {a b:Fr4}{p q:Rat}(ha:Qn a p) (hb:Qn b q) (hs:Sz 10000000 p) (ht:Sz 10000000 q):aD true Tryz.prog 59 [] [qF a,qF b] (aL (.one (tv (.bool (decide (p=q)))))):=by
 refine bE Tryz.func59 rfl Tryz.ntmps59 rfl aA rfl fun N w c0 h0=>?_
 refine sq ?_;refine rl ?_;refine bx 0 ?_;refine bx 1 ?_;refine o1 ?_;refine nl ?_;refine sq ?_;refine rl ?_;refine ld ?_;refine ld ?_
 refine ca (Qa ha hb (hs.mono (M:=17179869184) (by omega)) (ht.mono (M:=17179869184) (by omega))) FT ⟨aB rfl,aB rfl,rfl⟩ (.one (tv (.int .i64 (p-q).num.sign))) ?_
 refine o1 ?_;refine o1 ?_;refine nl ?_;refine rt ?_;exact en (.inl rfl) rfl (aR (aN _)) (by decide) (fun _=>trivial) (congrArg (fun b=>FV.one (tv (.bool b))) (FU p q))
section
variable {q:Rat}
end
theorem AK (l:List Nat):Sz 44 (fC l):=by
 unfold fC
 split
 ·exact(Eo (sW _ 4) (cS (z:=100) (by omega) (by omega))).mono (by omega)
 exact(cS (z:=0) (by omega) (by omega)).mono (by omega)
theorem Jk {a:Zi}(ha:a.x.length≤1000000):aD true Tryz.prog 39 [] [gF a] (aL (.agg [tv (.bool a.s),.t (sU true a.x)])):=by
 refine bE Tryz.func39 rfl Tryz.ntmps39 rfl aA rfl fun N9 w9 c0 h0=>?_
 refine sq ?_;refine rl ?_;refine bx 0 ?_;refine al 1 ?_;refine nl ?_;refine sq ?_;refine rl ?_;refine o1 ?_;refine nl ?_;refine sq ?_;refine rl ?_;refine o1 ?_;refine o1 ?_;refine ld ?_
 refine jK (j:=2) aA rfl rfl rfl rfl .nil .fz (FW _) (Uf _) rfl (by omega) (by omega) ?_
 refine o1 ?_;refine nl ?_;refine sq ?_;refine rl ?_;refine o1 ?_;refine ld ?_;refine o1 ?_;refine o1 ?_;refine st ?_;refine nl ?_;refine rt ?_
 exact en (.inl rfl) rfl (aR (.agg (.cons (.id rfl) (.cons (.sl (trs:=aO a.x) rfl rfl (by rw[Nat.zero_add,Nat.mul_one,List.nil_append,List.take_of_length_le (by simp[fN])]) (by simp[fN])) .nil)))) (by decide) (fun _=>⟨trivial,.inl ⟨rfl,dT a.x⟩,trivial⟩) (by simp[aL,sU,tv])
theorem Xd {a:Fr4}(h1:a.x.length≤1000000) (h2:a.y.length≤1000000):aD false Tryz.prog 15 [] [qF a] (aL (qF a)):=by
 refine bE Tryz.func15 rfl Tryz.ntmps15 rfl aA rfl fun N9 w9 c0 h0=>?_
 refine sq ?_;refine rl ?_;refine bx 0 ?_;refine al 1 ?_;refine nl ?_;refine sq ?_;refine rd [0,1] (fun i=>[7].contains i) mixed ?_
 refine dv 0 ?_;refine aX 1 ?_;refine dv 3 ?_;refine aX 4 ?_;refine aJ 2 rfl (Jk (a:=⟨a.s,a.x⟩) h1) FX ⟨aB rfl,rfl⟩ (.agg [tv (.bool a.s),.t (sU false a.x)]) ?_
 refine aJ 5 rfl (Jk (a:=⟨a.t,a.y⟩) h2) FX ⟨aB rfl,rfl⟩ (.agg [tv (.bool a.t),.t (sU false a.y)]) ?_;refine df 6 ?_;refine dst 7 ?_;refine aS ?_;refine rt ?_
 exact en (.inl rfl) rfl (aR (.agg (.cons (.id rfl) (.cons (.id rfl) (.cons (.id rfl) (.cons (.id rfl) .nil)))))) (by decide) (fun h=>by cases h) rfl
theorem Ug {p:Rat}(hs:Sz 68719476736 p):aD true Tryz.prog 82 [] [qF (.of p)] (aL (.one (tv (.bool true)))):=by
 have h:=Fa (Qn.of (p:=p) hs)
 rwa[show cU (Fr4.of p).s (Fr4.of p).x (Fr4.of p).t (Fr4.of p).y=true from sY p]at h
theorem OJ {p q:Rat}(hs:Sz 1000000 p) (ht:Sz 1000000 q):aD true Tryz.prog 38 [] [qF (.of p),qF (.of q)] (aL (.one (tv (.bool (decide (p=q)))))):=by
 refine bE Tryz.func38 rfl Tryz.ntmps38 rfl aA rfl fun N9 w9 c0 h0=>?_
 refine sq ?_;refine rl ?_;refine bx 0 ?_;refine bx 1 ?_;refine o1 ?_;refine nl ?_;refine sq ?_;refine rd [0,1] (fun i=>[9].contains i) mixed ?_
 refine aX 0 ?_;refine aJ 1 rfl (Xd (a:=.of p) (Nat.le_trans hs.1 (by omega)) (Nat.le_trans hs.2 (by omega))) FY ⟨aB rfl,rfl⟩ (qF (.of p)) ?_
 refine aJ 2 rfl (Ug (p:=p) (hs.mono (M:=68719476736) (by omega))) FG ⟨aB rfl,rfl⟩ (.one (tv (.bool true))) ?_
 refine df 3 ?_;refine aX 4 ?_;refine aX 6 ?_;refine aJ 5 rfl (Xd (a:=.of p) (Nat.le_trans hs.1 (by omega)) (Nat.le_trans hs.2 (by omega))) FY ⟨aB rfl,rfl⟩ (qF (.of p)) ?_
 refine aJ 7 rfl (AJ (Qn.of (p:=p) (hs.mono (M:=68719476736) (by omega))) (Qn.of (p:=q) (ht.mono (M:=68719476736) (by omega))) (hs.mono (by omega)) (ht.mono (by omega))) OK ⟨aB rfl,aB rfl,rfl⟩ (.one (tv (.bool (decide (p=q))))) ?_
 refine df 8 ?_;refine dR 9 (by kernel_rfl) rfl rfl aA rfl (by trivial) ?_ (fun h=>by first | rfl | cases h)
 refine aS ?_;refine rt ?_;exact mE (.inl rfl) rfl (rfl)
theorem zQ {p:Rat}{e:Int}(hs:Sz 1000000 p) (he:e≠0→p=0):aD true Tryz.prog 14 [] [qF (.of p),qF (.of p),.one (tv (.int .i64 e))] (aL (.one (tv (.bool true)))):=by
 refine bE Tryz.func14 rfl Tryz.ntmps14 rfl aA rfl fun N9 w9 c0 h0=>?_
 refine sq ?_;refine rl ?_;refine bx 0 ?_;refine bx 1 ?_;refine o1 ?_;refine nl ?_;refine sq ?_;refine sq ?_;refine rl ?_;refine o1 ?_;refine o1 ?_;refine nl ?_
 refine bQ rfl (fun h1=>?_) (fun h1=>?_)
 ·refine sq ?_;refine rl ?_;refine ld ?_;refine ca (Ek (Qn.of (p:=p) (hs.mono (M:=68719476736) (by omega)))) Tu ⟨aB rfl,rfl⟩ (.one (tv (.int .i64 p.num.sign))) ?_
  refine o1 ?_;refine o1 ?_;refine nl ?_;refine rt ?_;exact mE (.inl rfl) rfl ((decide_eq_true (show p.num.sign=0 by rw[he h1];rfl)))
 refine sk ?_;refine sq ?_;refine rl ?_;refine ld ?_;refine ld ?_;refine ca (OJ hs hs) OL ⟨aB rfl,aB rfl,rfl⟩ (.one (tv (.bool (decide (p=p))))) ?_;refine o1 ?_;refine nl ?_
 refine rt ?_;exact mE (.inl rfl) rfl (decide_eq_true rfl)
theorem KO {n d:Int}(h1:-9223372036854775808≤n) (h2:n≤9223372036854775807) (h3:-9223372036854775808≤d) (h4:d≤9223372036854775807):aD false Tryz.prog 73 [] [.one (tv (.int .i64 n)),.one (tv (.int .i64 d))] (aL (.tup [qF (.of (Rat.divInt n d)),.one (tv (.int .i64 (if d=0 then 20 else 0)))])):=by
 refine bE Tryz.func73 rfl Tryz.ntmps73 rfl aA rfl fun N9 w9 c0 h0=>?_
 refine sq ?_;refine rl ?_;refine al 0 ?_;refine o1 ?_;refine nl ?_;refine sq ?_;refine rl ?_;refine o1 ?_;refine ca (vL (n:=n) (by omega) (by omega)) vM ⟨a1 rfl,rfl⟩ (kF n) ?_
 refine o1 ?_;refine ca (vL (n:=d) (by omega) (by omega)) vM ⟨a1 rfl,rfl⟩ (kF d) ?_
 refine ca (Mg (Zn.of (k:=n) (Nat.le_trans (lZ h1 h2) (by omega))) (Zn.of (k:=d) (Nat.le_trans (lZ h3 h4) (by omega)))) Tq ⟨aB rfl,aB rfl,rfl⟩ (.tup [qF (.of (Rat.divInt n d)),.one (tv (.int .i64 (if d=0 then 20 else 0)))]) ?_
 refine o1 ?_;refine o1 ?_;refine st ?_;refine o1 ?_;refine nl ?_;refine rt ?_
 exact en (.inl rfl) rfl (cV (.cons (.agg (.cons (.id rfl) (.cons (.id rfl) (.cons (.id rfl) (.cons (.id rfl) .nil))))) (.cons (aN _) .nil))) (by decide) (fun h=>by cases h) rfl
theorem pA {n d:Int}(h1:-9223372036854775808≤n) (h2:n≤9223372036854775807) (h3:-9223372036854775808≤d) (h4:d≤9223372036854775807):aD false Tryz.prog 30 [] [.one (tv (.int .i64 n)),.one (tv (.int .i64 d))] (aL (qF (.of (Rat.divInt n d)))):=by
 refine bE Tryz.func30 rfl Tryz.ntmps30 rfl aA rfl fun N9 w9 c0 h0=>?_
 refine sq ?_;refine rl ?_;refine al 0 ?_;refine nl ?_;refine sq ?_;refine rl ?_;refine o1 ?_;refine o1 ?_
 refine ca (KO h1 h2 h3 h4) OM ⟨a1 rfl,a1 rfl,rfl⟩ (.tup [qF (.of (Rat.divInt n d)),.one (tv (.int .i64 (if d=0 then 20 else 0)))]) ?_;(iterate 3 refine o1 ?_);refine al 1 ?_;refine st ?_
 refine o1 ?_;refine nl ?_;refine sq ?_;refine rl ?_;refine ld ?_;refine st ?_;refine nl ?_;refine rt ?_
 exact en (.inl rfl) rfl (aR (.agg (.cons (.id rfl) (.cons (.id rfl) (.cons (.id rfl) (.cons (.id rfl) .nil)))))) (by decide) (fun h=>by cases h) (rfl)
theorem QB:aD false Tryz.prog 8 [] [.one (tv (.string ⟨#[45,49,50,46,53,48]⟩))] (aL (.tup [qF (.of (Rat.divInt (-25) 2)),.one (tv (.int .i64 0))])):=by
 have h:=Jb (l:=[45,49,50,46,53,48]) (show∀x∈[45,49,50,46,53,48],x<256 by decide) (by decide)
 rwa[show cP [45,49,50,46,53,48] [45,49,50,46,53,48].length=(Rat.divInt (-25) 2) by decide+kernel,show dY [45,49,50,46,53,48] [45,49,50,46,53,48].length=0 by decide+kernel]at h
theorem QC:aD false Tryz.prog 9 [] [.one (tv (.string ⟨#[48,46,48,53]⟩))] (aL (.tup [qF (.of (Rat.divInt 1 20)),.one (tv (.int .i64 0))])):=by
 have h:=vQ (l:=[48,46,48,53]) (show∀x∈[48,46,48,53],x<256 by decide) (by decide)
 rwa[show cP [48,46,48,53] 2=(Rat.divInt 1 20) by decide+kernel,show dY [48,46,48,53] 2=0 by decide+kernel]at h
theorem QD:aD false Tryz.prog 9 [] [.one (tv (.string ⟨#[49,46,48,48,53]⟩))] (aL (.tup [qF (.of (0:Rat)),.one (tv (.int .i64 60))])):=by
 have h:=vQ (l:=[49,46,48,48,53]) (show∀x∈[49,46,48,48,53],x<256 by decide) (by decide)
 rwa[show cP [49,46,48,48,53] 2=(0:Rat) by decide+kernel,show dY [49,46,48,48,53] 2=60 by decide+kernel]at h
theorem QE:aD false Tryz.prog 10 [] [.one (tv (.string ⟨#[51,55,46,53,37]⟩))] (aL (.tup [qF (.of (Rat.divInt 3 8)),.one (tv (.int .i64 0))])):=by
 have h:=pU (l:=[51,55,46,53,37]) (show∀x∈[51,55,46,53,37],x<256 by decide) (by decide)
 rwa[show fC [51,55,46,53,37]=(Rat.divInt 3 8) by decide+kernel,show eP [51,55,46,53,37]=0 by decide+kernel]at h
theorem QF:aD false Tryz.prog 10 [] [.one (tv (.string ⟨#[49,48,48,37]⟩))] (aL (.tup [qF (.of (Rat.divInt 1 1)),.one (tv (.int .i64 0))])):=by
 have h:=pU (l:=[49,48,48,37]) (show∀x∈[49,48,48,37],x<256 by decide) (by decide)
 rwa[show fC [49,48,48,37]=(Rat.divInt 1 1) by decide+kernel,show eP [49,48,48,37]=0 by decide+kernel]at h
theorem QG:aD false Tryz.prog 10 [] [.one (tv (.string ⟨#[49,48,48,46,49,37]⟩))] (aL (.tup [qF (.of (0:Rat)),.one (tv (.int .i64 60))])):=by
 have h:=pU (l:=[49,48,48,46,49,37]) (show∀x∈[49,48,48,46,49,37],x<256 by decide) (by decide)
 rwa[show fC [49,48,48,46,49,37]=(0:Rat) by decide+kernel,show eP [49,48,48,46,49,37]=60 by decide+kernel]at h
theorem QH:aD false Tryz.prog 10 [] [.one (tv (.string ⟨#[53]⟩))] (aL (.tup [qF (.of (0:Rat)),.one (tv (.int .i64 60))])):=by
 have h:=pU (l:=[53]) (show∀x∈[53],x<256 by decide) (by decide)
 rwa[show fC [53]=(0:Rat) by decide+kernel,show eP [53]=60 by decide+kernel]at h
theorem QI:aD true Tryz.prog 18 [] [qF (.of (Rat.divInt 1 8))] (aL (.one (tv (.string (aC [48,46,49,50]))))):=by
 have h:=zM (Qn.of (p:=(Rat.divInt 1 8)) ((gK (by omega) (by omega) (by omega) (by omega)).mono (M:=68719476736) (by omega))) (gK (by omega) (by omega) (by omega) (by omega)) (by omega)
 rwa[show(gV (Rat.divInt 1 8) (bP 2))=[48,46,49,50] by decide+kernel]at h
theorem QJ:aD true Tryz.prog 18 [] [qF (.of (Rat.divInt 3 8))] (aL (.one (tv (.string (aC [48,46,51,56]))))):=by
 have h:=zM (Qn.of (p:=(Rat.divInt 3 8)) ((gK (by omega) (by omega) (by omega) (by omega)).mono (M:=68719476736) (by omega))) (gK (by omega) (by omega) (by omega) (by omega)) (by omega)
 rwa[show(gV (Rat.divInt 3 8) (bP 2))=[48,46,51,56] by decide+kernel]at h
theorem QK:aD true Tryz.prog 18 [] [qF (.of (Rat.divInt (-1) 1000))] (aL (.one (tv (.string (aC [48,46,48,48]))))):=by
 have h:=zM (Qn.of (p:=(Rat.divInt (-1) 1000)) ((gK (by omega) (by omega) (by omega) (by omega)).mono (M:=68719476736) (by omega))) (gK (by omega) (by omega) (by omega) (by omega)) (by omega)
 rwa[show(gV (Rat.divInt (-1) 1000) (bP 2))=[48,46,48,48] by decide+kernel]at h
theorem QL:aD true Tryz.prog 16 [] [qF (.of (Rat.divInt 7 2)),.one (tv (.int .i64 0))] (aL (.one (tv (.string (aC [52]))))):=by
 have h:=Mj (n:=0) (Qn.of (p:=(Rat.divInt 7 2)) ((gK (by omega) (by omega) (by omega) (by omega)).mono (M:=68719476736) (by omega))) (gK (by omega) (by omega) (by omega) (by omega)) (by omega)
 rwa[show(gV (Rat.divInt 7 2) (bP 0))=[52] by decide+kernel]at h
theorem QM:aD true Tryz.prog 19 [] [qF (.of (Rat.divInt 3 8))] (aL (.one (tv (.string (aC [51,55,46,53,37]))))):=by
 have h:=xN (Qn.of (p:=(Rat.divInt 3 8)) ((gK (by omega) (by omega) (by omega) (by omega)).mono (M:=68719476736) (by omega))) (gK (by omega) (by omega) (by omega) (by omega)) (by omega)
 rwa[show(Ji (Rat.divInt 3 8))=[51,55,46,53,37] by decide+kernel]at h
theorem QN:aD true Tryz.prog 19 [] [qF (.of (Rat.divInt 1 3))] (aL (.one (tv (.string (aC []))))):=by
 have h:=xN (Qn.of (p:=(Rat.divInt 1 3)) ((gK (by omega) (by omega) (by omega) (by omega)).mono (M:=68719476736) (by omega))) (gK (by omega) (by omega) (by omega) (by omega)) (by omega)
 rwa[show(Ji (Rat.divInt 1 3))=[] by decide+kernel]at h
theorem xQ {p:Rat}(h:Sz 68719476736 p):aD true Tryz.prog 27 [] [qF (.of p),qF (.of p)] (aL (.one (tv (.int .i64 0)))):=by
 have h1:=Mf (Qn.of (p:=p) h) (Qn.of (p:=p) h)
 rwa[show p-p=0 by grind]at h1
theorem Fg:aD true Tryz.prog 7 [] [] (aL (.one (tv (.bool true)))):=by
 refine bE Tryz.func7 rfl Tryz.ntmps7 rfl aA rfl fun N9 w9 c0 h0=>?_
 refine sq ?_;refine rl ?_;refine o1 ?_;refine nl ?_;refine sq ?_;refine rl ?_;refine ca (QB) MN ⟨a1 rfl,rfl⟩ (.tup [qF (.of (Rat.divInt (-25) 2)),.one (tv (.int .i64 0))]) ?_
 (iterate 3 refine o1 ?_);refine al 0 ?_;refine st ?_;refine o1 ?_;refine nl ?_;refine sq ?_;refine rl ?_
 refine ca (QC) FZ ⟨a1 rfl,rfl⟩ (.tup [qF (.of (Rat.divInt 1 20)),.one (tv (.int .i64 0))]) ?_;(iterate 3 refine o1 ?_);refine al 1 ?_;refine st ?_;refine o1 ?_;refine nl ?_;refine sq ?_
 refine rl ?_;refine ca (QD) FZ ⟨a1 rfl,rfl⟩ (.tup [qF (.of (0:Rat)),.one (tv (.int .i64 60))]) ?_;(iterate 3 refine o1 ?_);refine al 2 ?_;refine st ?_;refine o1 ?_;refine nl ?_
 refine sq ?_;refine rl ?_;refine ca (QE) Fh ⟨a1 rfl,rfl⟩ (.tup [qF (.of (Rat.divInt 3 8)),.one (tv (.int .i64 0))]) ?_;(iterate 3 refine o1 ?_);refine al 3 ?_;refine st ?_;refine o1 ?_
 refine nl ?_;refine sq ?_;refine rl ?_;refine ca (QF) Fh ⟨a1 rfl,rfl⟩ (.tup [qF (.of (Rat.divInt 1 1)),.one (tv (.int .i64 0))]) ?_;(iterate 3 refine o1 ?_);refine al 4 ?_;refine st ?_
 refine o1 ?_;refine nl ?_;refine sq ?_;refine rl ?_;refine ca (QG) Fh ⟨a1 rfl,rfl⟩ (.tup [qF (.of (0:Rat)),.one (tv (.int .i64 60))]) ?_;(iterate 3 refine o1 ?_);refine al 5 ?_
 refine st ?_;refine o1 ?_;refine nl ?_;refine sq ?_;refine rl ?_;refine ca (QH) Fh ⟨a1 rfl,rfl⟩ (.tup [qF (.of (0:Rat)),.one (tv (.int .i64 60))]) ?_;(iterate 3 refine o1 ?_)
 refine al 6 ?_;refine st ?_;refine o1 ?_;refine nl ?_;refine sq ?_;refine rd [0,1,2,3,4,5,6] (fun i=>[80].contains i) mixed ?_
 refine dv 0 ?_;refine dv 1 ?_;refine dv 2 ?_;refine WD.split (t:=45) rfl rfl (fun h1=>?_) (fun h1=>?_)
 ·refine aX 3 ?_;refine aJ 4 rfl (pA (n:=(-25)) (d:=2) (by omega) (by omega) (by omega) (by omega)) pB ⟨a1 rfl,a1 rfl,rfl⟩ (qF (.of (Rat.divInt (-25) 2))) ?_
  refine aJ 5 rfl (xQ (p:=(Rat.divInt (-25) 2)) ((gK (by omega) (by omega) (by omega) (by omega)).mono (M:=68719476736) (by omega))) zK ⟨aB rfl,aB rfl,rfl⟩ (.one (tv (.int .i64 0))) ?_
  refine df 6 ?_;refine df 7 ?_;refine df 8 ?_;refine WD.split (t:=51) rfl rfl (fun h2=>?_) (fun h2=>?_)
  ·refine dv 9 ?_;refine dv 10 ?_;refine df 11 ?_;refine df 12 ?_;refine WD.split (t:=55) rfl rfl (fun h3=>?_) (fun h3=>?_)
   ·refine aX 13 ?_;refine aJ 14 rfl (pA (n:=1) (d:=20) (by omega) (by omega) (by omega) (by omega)) pB ⟨a1 rfl,a1 rfl,rfl⟩ (qF (.of (Rat.divInt 1 20))) ?_
    refine aJ 15 rfl (xQ (p:=(Rat.divInt 1 20)) ((gK (by omega) (by omega) (by omega) (by omega)).mono (M:=68719476736) (by omega))) zK ⟨aB rfl,aB rfl,rfl⟩ (.one (tv (.int .i64 0))) ?_
    refine df 16 ?_;refine df 17 ?_;refine df 18 ?_;refine WD.split (t:=61) rfl rfl (fun h4=>?_) (fun h4=>?_)
    ·refine dv 19 ?_;refine dv 20 ?_;refine df 21 ?_;refine df 22 ?_;refine WD.split (t:=65) rfl rfl (fun h5=>?_) (fun h5=>?_)
     ·refine dv 23 ?_;refine dv 24 ?_;refine df 25 ?_;refine df 26 ?_;refine WD.split (t:=69) rfl rfl (fun h6=>?_) (fun h6=>?_)
      ·refine aX 27 ?_;refine aJ 28 rfl (pA (n:=3) (d:=8) (by omega) (by omega) (by omega) (by omega)) pB ⟨a1 rfl,a1 rfl,rfl⟩ (qF (.of (Rat.divInt 3 8))) ?_
       refine aJ 29 rfl (xQ (p:=(Rat.divInt 3 8)) ((gK (by omega) (by omega) (by omega) (by omega)).mono (M:=68719476736) (by omega))) zK ⟨aB rfl,aB rfl,rfl⟩ (.one (tv (.int .i64 0))) ?_
       refine df 30 ?_;refine df 31 ?_;refine df 32 ?_;refine WD.split (t:=75) rfl rfl (fun h7=>?_) (fun h7=>?_)
       ·refine dv 33 ?_;refine dv 34 ?_;refine df 35 ?_;refine df 36 ?_;refine WD.split (t:=79) rfl rfl (fun h8=>?_) (fun h8=>?_)
        ·refine aX 37 ?_;refine aJ 38 rfl (pA (n:=1) (d:=1) (by omega) (by omega) (by omega) (by omega)) pB ⟨a1 rfl,a1 rfl,rfl⟩ (qF (.of (Rat.divInt 1 1))) ?_
         refine aJ 39 rfl (xQ (p:=(Rat.divInt 1 1)) ((gK (by omega) (by omega) (by omega) (by omega)).mono (M:=68719476736) (by omega))) zK ⟨aB rfl,aB rfl,rfl⟩ (.one (tv (.int .i64 0))) ?_
         refine df 40 ?_;refine df 41 ?_;refine df 42 ?_;refine WD.split (t:=85) rfl rfl (fun h9=>?_) (fun h9=>?_)
         ·refine dv 43 ?_;refine dv 44 ?_;refine df 45 ?_;refine df 46 ?_;refine WD.split (t:=89) rfl rfl (fun h10=>?_) (fun h10=>?_)
          ·refine dv 47 ?_;refine dv 48 ?_;refine df 49 ?_;refine df 50 ?_;refine WD.split (t:=93) rfl rfl (fun h11=>?_) (fun h11=>?_)
           ·refine aJ 51 rfl (pA (n:=1) (d:=8) (by omega) (by omega) (by omega) (by omega)) pB ⟨a1 rfl,a1 rfl,rfl⟩ (qF (.of (Rat.divInt 1 8))) ?_
            refine aJ 52 rfl (QI) Uh ⟨aB rfl,rfl⟩ (.one (tv (.string (aC [48,46,49,50])))) ?_;refine df 53 ?_
            refine WD.cast (t:=96) (u':=.bool true) rfl (congrArg Value.bool ((jJ (l:=[48,46,49,50]) (l':=[48,46,49,50]) (show∀x∈([48,46,49,50]:List Nat),x<256 by decide) (show∀x∈([48,46,49,50]:List Nat),x<256 by decide)).trans (decide_eq_true rfl))) ?_
            refine df 54 ?_;refine df 55 ?_
            refine aJ 56 rfl (pA (n:=3) (d:=8) (by omega) (by omega) (by omega) (by omega)) pB ⟨a1 rfl,a1 rfl,rfl⟩ (qF (.of (Rat.divInt 3 8))) ?_
            refine aJ 57 rfl (QJ) Uh ⟨aB rfl,rfl⟩ (.one (tv (.string (aC [48,46,51,56])))) ?_;refine df 58 ?_
            refine WD.cast (t:=101) (u':=.bool true) rfl (congrArg Value.bool ((jJ (l:=[48,46,51,56]) (l':=[48,46,51,56]) (show∀x∈([48,46,51,56]:List Nat),x<256 by decide) (show∀x∈([48,46,51,56]:List Nat),x<256 by decide)).trans (decide_eq_true rfl))) ?_
            refine df 59 ?_;refine df 60 ?_
            refine aJ 61 rfl (pA (n:=(-1)) (d:=1000) (by omega) (by omega) (by omega) (by omega)) pB ⟨a1 rfl,a1 rfl,rfl⟩ (qF (.of (Rat.divInt (-1) 1000))) ?_
            refine aJ 62 rfl (QK) Uh ⟨aB rfl,rfl⟩ (.one (tv (.string (aC [48,46,48,48])))) ?_;refine df 63 ?_
            refine WD.cast (t:=106) (u':=.bool true) rfl (congrArg Value.bool ((jJ (l:=[48,46,48,48]) (l':=[48,46,48,48]) (show∀x∈([48,46,48,48]:List Nat),x<256 by decide) (show∀x∈([48,46,48,48]:List Nat),x<256 by decide)).trans (decide_eq_true rfl))) ?_
            refine df 64 ?_;refine df 65 ?_
            refine aJ 66 rfl (pA (n:=7) (d:=2) (by omega) (by omega) (by omega) (by omega)) pB ⟨a1 rfl,a1 rfl,rfl⟩ (qF (.of (Rat.divInt 7 2))) ?_
            refine aJ 67 rfl (QL) Ua ⟨aB rfl,a1 rfl,rfl⟩ (.one (tv (.string (aC [52])))) ?_;refine df 68 ?_
            refine WD.cast (t:=111) (u':=.bool true) rfl (congrArg Value.bool ((jJ (l:=[52]) (l':=[52]) (show∀x∈([52]:List Nat),x<256 by decide) (show∀x∈([52]:List Nat),x<256 by decide)).trans (decide_eq_true rfl))) ?_
            refine df 69 ?_;refine df 70 ?_
            refine aJ 71 rfl (pA (n:=3) (d:=8) (by omega) (by omega) (by omega) (by omega)) pB ⟨a1 rfl,a1 rfl,rfl⟩ (qF (.of (Rat.divInt 3 8))) ?_
            refine aJ 72 rfl (QM) GA ⟨aB rfl,rfl⟩ (.one (tv (.string (aC [51,55,46,53,37])))) ?_;refine df 73 ?_
            refine WD.cast (t:=116) (u':=.bool true) rfl (congrArg Value.bool ((jJ (l:=[51,55,46,53,37]) (l':=[51,55,46,53,37]) (show∀x∈([51,55,46,53,37]:List Nat),x<256 by decide) (show∀x∈([51,55,46,53,37]:List Nat),x<256 by decide)).trans (decide_eq_true rfl))) ?_
            refine df 74 ?_;refine df 75 ?_
            refine aJ 76 rfl (pA (n:=1) (d:=3) (by omega) (by omega) (by omega) (by omega)) pB ⟨a1 rfl,a1 rfl,rfl⟩ (qF (.of (Rat.divInt 1 3))) ?_
            refine aJ 77 rfl (QN) GA ⟨aB rfl,rfl⟩ (.one (tv (.string (aC [])))) ?_;refine df 78 ?_
            refine WD.cast (t:=121) (u':=.bool true) rfl (congrArg Value.bool ((jJ (l:=[]) (l':=[]) (show∀x∈([]:List Nat),x<256 by decide) (show∀x∈([]:List Nat),x<256 by decide)).trans (decide_eq_true rfl))) ?_
            refine df 79 ?_;refine dR 80 (by kernel_rfl) rfl rfl aA rfl (by trivial) ?_ (fun h=>by first | rfl | cases h)
            refine aS ?_;refine rt ?_;exact mE (.inl rfl) rfl (rfl)
           exact absurd rfl h11
          exact absurd rfl h10
         exact absurd rfl h9
        exact absurd rfl h8
       exact absurd rfl h7
      exact absurd rfl h6
     exact absurd rfl h5
    exact absurd rfl h4
   exact absurd rfl h3
  exact absurd rfl h2
 exact absurd rfl h1
theorem Xe (l:List Nat) (m:Nat) (h:dY l m≠0):cP l m=0:=if_neg h
theorem KP (l:List Nat) (h:eP l≠0):fC l=0:=if_neg h
theorem Le {l:List Nat}(hl:Lim 256 l):aD true Tryz.prog 3 [] [.one (tv (.string (aC l)))] (aL (.one (tv (.bool true)))):=by
 refine bE Tryz.func3 rfl Tryz.ntmps3 rfl aA rfl fun N9 w9 c0 h0=>?_
 refine sq ?_;refine rl ?_;refine o1 ?_;refine nl ?_;refine sq ?_;refine sq ?_;refine rl ?_;refine o1 ?_;refine o1 ?_
 refine WL.cast (t:=16) (u':=.int .i64 ((l.length:Nat):Int)) rfl (congrArg (fun n:Nat=>Value.int .i64 (n:Int)) (aG _)) ?_
 refine o1 ?_;refine nl ?_;refine bQ rfl (fun h1=>?_) (fun h1=>?_)
 ·refine sq ?_;refine rl ?_;refine ca (Fg) MO rfl (.one (tv (.bool true))) ?_;refine o1 ?_;refine nl ?_;refine rt ?_;exact mE (.inl rfl) rfl (rfl)
 refine sk ?_;refine sq ?_;refine rl ?_;refine o1 ?_;refine ca (Jb hl (by omega)) MN ⟨a1 rfl,rfl⟩ (.tup [qF (.of (cP l l.length)),.one (tv (.int .i64 (dY l l.length)))]) ?_
 (iterate 3 refine o1 ?_);refine al 0 ?_;refine st ?_;refine o1 ?_;refine nl ?_;refine sq ?_;refine rl ?_;refine o1 ?_
 refine ca (vQ hl (by omega)) FZ ⟨a1 rfl,rfl⟩ (.tup [qF (.of (cP l 2)),.one (tv (.int .i64 (dY l 2)))]) ?_
 (iterate 3 refine o1 ?_);refine al 1 ?_;refine st ?_;refine o1 ?_;refine nl ?_;refine sq ?_;refine rl ?_;refine o1 ?_
 refine ca (pU hl (by omega)) Fh ⟨a1 rfl,rfl⟩ (.tup [qF (.of (fC l)),.one (tv (.int .i64 (eP l)))]) ?_
 (iterate 3 refine o1 ?_);refine al 2 ?_;refine st ?_;refine o1 ?_;refine nl ?_;refine sq ?_;refine rl ?_;refine o1 ?_
 refine ca (AH hl (by omega)) ON ⟨a1 rfl,rfl⟩ (.tup [qF (.of (cP l l.length)),.one (tv (.int .i64 (dY l l.length)))]) ?_
 (iterate 3 refine o1 ?_);refine al 3 ?_;refine st ?_;refine o1 ?_;refine nl ?_;refine sq ?_;refine rl ?_;refine o1 ?_
 refine ca (Ue hl (by omega)) OO ⟨a1 rfl,rfl⟩ (.tup [qF (.of (cP l 2)),.one (tv (.int .i64 (dY l 2)))]) ?_
 (iterate 3 refine o1 ?_);refine al 4 ?_;refine st ?_;refine o1 ?_;refine nl ?_;refine sq ?_;refine rl ?_;refine o1 ?_
 refine ca (AI hl (by omega)) OP ⟨a1 rfl,rfl⟩ (.tup [qF (.of (fC l)),.one (tv (.int .i64 (eP l)))]) ?_
 (iterate 3 refine o1 ?_);refine al 5 ?_;refine st ?_;refine o1 ?_;refine nl ?_;refine sq ?_;refine rl ?_;(iterate 4 refine o1 ?_);refine WL.split (t:=52) rfl (fun h2=>?_) (fun h2=>?_)
 ·(iterate 5 refine o1 ?_);refine WL.split (t:=57) rfl (fun h3=>?_) (fun h3=>?_)
  ·(iterate 5 refine o1 ?_);refine WL.split (t:=62) rfl (fun h4=>?_) (fun h4=>?_)
   ·refine ld ?_;refine ld ?_;refine o1 ?_;refine ca (zQ ((sW l l.length).mono (by omega)) (Xe l l.length)) Ui ⟨aB rfl,aB rfl,a1 rfl,rfl⟩ (.one (tv (.bool true))) ?_
    refine o1 ?_;refine o1 ?_;refine ld ?_;refine ld ?_;refine o1 ?_
    refine ca (zQ ((sW l 2).mono (by omega)) (Xe l 2)) Ui ⟨aB rfl,aB rfl,a1 rfl,rfl⟩ (.one (tv (.bool true))) ?_
    refine o1 ?_;refine o1 ?_;refine ld ?_;refine ld ?_;refine o1 ?_
    refine ca (zQ ((AK l).mono (by omega)) (KP l)) Ui ⟨aB rfl,aB rfl,a1 rfl,rfl⟩ (.one (tv (.bool true))) ?_
    refine o1 ?_;refine o1 ?_;refine ca (Fg) MO rfl (.one (tv (.bool true))) ?_;refine o1 ?_;refine o1 ?_;refine nl ?_;refine rt ?_;exact mE (.inl rfl) rfl (rfl)
   exact absurd rfl h4
  exact absurd rfl h3
 exact absurd rfl h2
end Go.Proofs.YtcaakamelngceaaGreatDoor
