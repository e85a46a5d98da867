/- Part 13 of a proof: A5 to Uh. -/
import Derived.Test.YtcaakamelngceaaGreatDoorM9
import Derived.Test.YtcaakamelngceaaGreatDoorM10
import Derived.Test.YtcaakamelngceaaGreatDoorM12
import Derived.Test.YtcaakamelngceaaGreatDoorM5
import Derived.Test.YtcaakamelngceaaGreatDoorM11
import Derived.Test.YtcaakamelngceaaGreatDoorM8
set_option maxRecDepth 100000
set_option linter.unusedVariables false
set_option linter.unusedSimpArgs false
namespace Go.Proofs.YtcaakamelngceaaGreatDoor
open Go Go.RowKit
theorem EZ {a b:Zi}{k k':Int}(ha:Zn a k) (hb:Zn b k'):aE true Tryz.prog 134 [] [gF a,gF b] (aM (.one (tv (.bool (decide (k=k')))))):=by
 refine bD Tryz.func134 rfl Tryz.ntmps134 rfl aA rfl fun N w c0 h0=>?_
 refine sq ?_;refine rl ?_;refine bx 0 ?_;refine bx 1 ?_;refine o1 ?_;refine nl ?_;refine sq ?_;refine rl ?_;refine ld ?_;refine ld ?_
 refine ca (Hv ha hb) Ya ⟨aB rfl,aB rfl,rfl⟩ (.one (tv (.int .i64 ((k)-(k')).sign))) ?_;refine o1 ?_;refine o1 ?_;refine nl ?_;refine rt ?_
 exact en (.inl rfl) rfl (aV (aP _)) (by decide) (fun _=>trivial) (congrArg (fun z=>FV.one (tv (.bool z))) (Xb _ _))
theorem Hw {a:Fr4}{p:Rat}(ha:Qn a p):aE true Tryz.prog 82 [] [qF a] (aM (.one (tv (.bool (dC a.s a.x a.t a.y))))):=by
 refine bD Tryz.func82 rfl Tryz.ntmps82 rfl aA rfl fun N w c0 h0=>?_
 have hzl:=(Gg ha).len
 have hzd:=(sK ha).len
 refine sq ?_;refine rl ?_;refine bx 0 ?_;refine o1 ?_;refine nl ?_;refine sq ?_;refine rl ?_;refine o1 ?_;refine ld ?_
 refine ca (yA (Gg ha)) Py ⟨aB rfl,rfl⟩ (.one (tv (.bool (cQ a.s a.x)))) ?_;refine o1 ?_;refine WL.splitb (t:=6) rfl (fun h1=>?_) (fun h1=>?_)
 ·refine o1 ?_;refine ld ?_;refine ca (yA (sK ha)) Py ⟨aB rfl,rfl⟩ (.one (tv (.bool (cQ a.t a.y)))) ?_;refine o1 ?_;refine o1 ?_
  refine WL.splitb (t:=11) rfl (fun h2=>?_) (fun h2=>?_)
  ·refine o1 ?_;refine ld ?_;refine ca (jW (sK ha)) sY ⟨aB rfl,rfl⟩ (.one (tv (.int .i64 ((dD a.t a.y)).sign))) ?_;(iterate 3 refine o1 ?_)
   refine WL.split (t:=17) rfl (fun h3=>?_) (fun h3=>?_)
   ·refine o1 ?_;refine ld ?_;refine o1 ?_;refine ld ?_;have s3:0<dD a.t a.y:=Int.sign_pos_iff.1 h3
    have hn4:=Bm (k:=(dD a.s a.x)) (k':=(dD a.t a.y)) (by omega)
    refine ca (Hz (Gg ha) (sK ha)) Pz ⟨aB rfl,aB rfl,rfl⟩ (kF (((Int.gcd (dD a.s a.x) (dD a.t a.y):Nat):Int))) ?_;have hn5:=nM (n:=(1:Int)) (by omega) (by omega)
    refine ca (jX (n:=(1:Int)) (by omega) (by omega)) mS ⟨a1 rfl,rfl⟩ (kF ((1:Int))) ?_
    refine ca (EZ (Zn.of (k:=((Int.gcd (dD a.s a.x) (dD a.t a.y):Nat):Int)) (by omega)) (Zn.of (k:=(1:Int)) (by omega))) QC ⟨aB rfl,aB rfl,rfl⟩ (.one (tv (.bool (decide ((((Int.gcd (dD a.s a.x) (dD a.t a.y):Nat):Int))=((1:Int))))))) ?_
    refine o1 ?_;refine o1 ?_;refine nl ?_;refine rt ?_
    exact en (.inl rfl) rfl (aV (aP _)) (by decide) (fun _=>trivial) (congrArg (fun z=>FV.one (tv (.bool z))) (by simp[dC,h1,h2,s3,Lm]))
   (iterate 7 refine cG ?_);refine o1 ?_;refine o1 ?_;refine nl ?_;refine rt ?_;have s3:¬(0<dD a.t a.y):=fun h=>h3 (Int.sign_pos_iff.2 h)
   exact en (.inl rfl) rfl (aV (aP _)) (by decide) (fun _=>trivial) (congrArg (fun z=>FV.one (tv (.bool z))) (by simp[dC,h1,h2,s3,Lm]))
  (iterate 4 refine cG ?_);refine o1 ?_;refine o1 ?_;(iterate 7 refine cG ?_);refine o1 ?_;refine o1 ?_;refine nl ?_;refine rt ?_
  exact en (.inl rfl) rfl (aV (aP _)) (by decide) (fun _=>trivial) (congrArg (fun z=>FV.one (tv (.bool z))) (by simp[dC,h1,h2]))
 (iterate 3 refine cG ?_);refine o1 ?_;refine o1 ?_;(iterate 4 refine cG ?_);refine o1 ?_;refine o1 ?_;(iterate 7 refine cG ?_);refine o1 ?_;refine o1 ?_;refine nl ?_;refine rt ?_
 exact en (.inl rfl) rfl (aV (aP _)) (by decide) (fun _=>trivial) (congrArg (fun z=>FV.one (tv (.bool z))) (by simp[dC,h1]))
theorem gS:aE false Tryz.prog 34 [] [] (aM (qF (.of 0))):=by
 refine bD Tryz.func34 rfl Tryz.ntmps34 rfl aA rfl fun N w c0 h0=>?_
 refine sq ?_;refine rl ?_;refine al 0 ?_;refine nl ?_;refine sq ?_;refine rl ?_;have hn1:=nM (n:=(0:Int)) (by omega) (by omega)
 refine ca (jX (n:=(0:Int)) (by omega) (by omega)) mS ⟨a1 rfl,rfl⟩ (kF ((0:Int))) ?_
 have hn2:=nM (n:=(1:Int)) (by omega) (by omega)
 refine ca (jX (n:=(1:Int)) (by omega) (by omega)) mS ⟨a1 rfl,rfl⟩ (kF ((1:Int))) ?_
 refine o1 ?_;refine st ?_;refine nl ?_;refine rt ?_
 exact en (.inl rfl) rfl (aV (.agg (.cons (.id rfl) (.cons (.id rfl) (.cons (.id rfl) (.cons (.id rfl) .nil)))))) (by decide) (fun h=>by cases h) (wE (q:=0) rfl rfl)
theorem iO {n:Int}(h1:-9223372036854775808≤n) (h2:n≤9223372036854775807):aE false Tryz.prog 36 [] [.one (tv (.int .i64 n))] (aM (qF (.of (n:Rat)))):=by
 refine bD Tryz.func36 rfl Tryz.ntmps36 rfl aA rfl fun N w c0 h0=>?_
 refine sq ?_;refine rl ?_;refine al 0 ?_;refine nl ?_;refine sq ?_;refine rl ?_;refine o1 ?_;have hn1:=nM (n:=n) (by omega) (by omega)
 refine ca (jX (n:=n) (by omega) (by omega)) mS ⟨a1 rfl,rfl⟩ (kF (n)) ?_
 have hn2:=nM (n:=(1:Int)) (by omega) (by omega)
 refine ca (jX (n:=(1:Int)) (by omega) (by omega)) mS ⟨a1 rfl,rfl⟩ (kF ((1:Int))) ?_
 refine o1 ?_;refine st ?_;refine nl ?_;refine rt ?_
 exact en (.inl rfl) rfl (aV (.agg (.cons (.id rfl) (.cons (.id rfl) (.cons (.id rfl) (.cons (.id rfl) .nil)))))) (by decide) (fun h=>by cases h) (wE (q:=(n:Rat)) (Rat.num_intCast n) (by rw[Rat.den_intCast];rfl))
theorem hH {a:Fr4}{p:Rat}(ha:Qn a p):aE false Tryz.prog 44 [] [qF a] (aM (qF (.of p))):=by
 refine bD Tryz.func44 rfl Tryz.ntmps44 rfl aA rfl fun N w c0 h0=>?_
 refine sq ?_;refine rl ?_;refine bx 0 ?_;refine al 1 ?_;refine nl ?_;refine sq ?_;refine sq ?_;refine rl ?_;refine ld ?_
 refine ca (Hw ha) KT ⟨aB rfl,rfl⟩ (.one (tv (.bool (dC a.s a.x a.t a.y)))) ?_;refine WL.splitb (t:=4) rfl (fun h1=>?_) (fun h1=>?_)
 ·refine o1 ?_;refine nl ?_;refine fD rfl ?_;refine sk ?_;refine sq ?_;refine rl ?_;refine ld ?_;refine st ?_;refine nl ?_;refine rt ?_
  exact en (.inl rfl) rfl (aV (.agg (.cons (.id rfl) (.cons (.id rfl) (.cons (.id rfl) (.cons (.id rfl) .nil)))))) (by decide) (fun h=>by cases h) (by rw[ha.right h1];rfl)
 refine o1 ?_;refine nl ?_;refine fV rfl ?_;refine sq ?_;refine rl ?_;refine ca (gS) oB rfl (qF (.of 0)) ?_;refine st ?_;refine nl ?_;refine rt ?_
 exact en (.inl rfl) rfl (aV (.agg (.cons (.id rfl) (.cons (.id rfl) (.cons (.id rfl) (.cons (.id rfl) .nil)))))) (by decide) (fun h=>by cases h) (by rw[ha.wrong h1];rfl)
theorem dW {a b:Zi}{k k':Int}(ha:Zn a k) (hb:Zn b k') (h0:k'≠0):aE false Tryz.prog 48 [] [gF a,gF b] (aM (.tup [kF (k.fdiv k'),kF (k.fmod k'),.one (tv (.int .i64 0))])):=by
 have h:=Tt ha hb
 rwa[if_neg h0,if_neg h0,if_neg h0]at h
theorem jF {a b:Zi}{k k':Int}(ha:Zn a k) (hb:Zn b k'):aE false Tryz.prog 80 [] [gF a,gF b] (aM (.tup [qF (.of (Rat.divInt k k')),.one (tv (.int .i64 (if k'=0 then 20 else 0)))])):=by
 refine bD Tryz.func80 rfl Tryz.ntmps80 rfl aA rfl fun N w c0 h0=>?_
 have hkl:=ha.len
 have hkl':=hb.len
 refine sq ?_;refine rl ?_;refine bx 0 ?_;refine bx 1 ?_;refine al 2 ?_;refine o1 ?_;refine nl ?_;refine sq ?_;refine sq ?_;refine rl ?_;refine ld ?_
 refine ca (jW hb) sY ⟨aB rfl,rfl⟩ (.one (tv (.int .i64 (k').sign))) ?_;refine o1 ?_;refine nl ?_;refine bN rfl (fun h1=>?_) (fun h1=>?_)
 ·refine sq ?_;refine rl ?_;refine ca (gS) oB rfl (qF (.of 0)) ?_;refine st ?_;refine o1 ?_;refine nl ?_;refine rt ?_;have hk0:k'=0:=Int.sign_eq_zero_iff_zero.1 h1
  have hd0:Rat.divInt k k'=0:=by rw[hk0];simp
  exact en (.inl rfl) rfl (dE (.cons (.agg (.cons (.id rfl) (.cons (.id rfl) (.cons (.id rfl) (.cons (.id rfl) .nil))))) (.cons (aP _) .nil))) (by decide) (fun h=>by cases h) (by rw[if_pos hk0,hd0];rfl)
 refine sk ?_;refine sq ?_;refine sq ?_;have hk0:k'≠0:=fun h9=>h1 (by rw[h9];rfl)
 refine rl ?_;refine ld ?_;refine ca (jW hb) sY ⟨aB rfl,rfl⟩ (.one (tv (.int .i64 (k').sign))) ?_;refine o1 ?_;refine nl ?_;refine bN rfl (fun h2=>?_) (fun h2=>?_)
 ·refine sq ?_;refine rl ?_;refine ld ?_;have hn3:=jA (k)
  refine ca (zY ha) Qa ⟨aB rfl,rfl⟩ (kF (-k)) ?_;refine st ?_;refine nl ?_;refine rl ?_;refine ld ?_;have hn4:=jA (k')
  refine ca (zY hb) Qa ⟨aB rfl,rfl⟩ (kF (-k')) ?_;refine st ?_;refine nl ?_;refine sq ?_;have hkn:k'<0:=Int.sign_neg_iff.1 h2
  refine rl ?_;refine ld ?_;refine ld ?_;have hn5:=Bm (k:=-k) (k':=-k') (by omega)
  refine ca (Hz (Zn.of (k:=-k) (by omega)) (Zn.of (k:=-k') (by omega))) Pz ⟨aB rfl,aB rfl,rfl⟩ (kF (((Int.gcd (-k) (-k'):Nat):Int))) ?_
  refine al 3 ?_;refine st ?_;refine nl ?_;refine sq ?_;refine rl ?_;refine ld ?_;refine ld ?_
  refine ca (dW (Zn.of (k:=-k) (by omega)) (Zn.of (k:=((Int.gcd (-k) (-k'):Nat):Int)) (by omega)) (zD (by omega))) kH ⟨aB rfl,aB rfl,rfl⟩ (.tup [kF ((-k).fdiv ((Int.gcd (-k) (-k'):Nat):Int)),kF ((-k).fmod ((Int.gcd (-k) (-k'):Nat):Int)),.one (tv (.int .i64 0))]) ?_
  (iterate 4 refine o1 ?_);refine al 4 ?_;refine al 5 ?_;refine st ?_;refine st ?_;refine o1 ?_;refine nl ?_;refine sq ?_;refine rl ?_;refine ld ?_;refine ld ?_
  refine ca (dW (Zn.of (k:=-k') (by omega)) (Zn.of (k:=((Int.gcd (-k) (-k'):Nat):Int)) (by omega)) (zD (by omega))) kH ⟨aB rfl,aB rfl,rfl⟩ (.tup [kF ((-k').fdiv ((Int.gcd (-k) (-k'):Nat):Int)),kF ((-k').fmod ((Int.gcd (-k) (-k'):Nat):Int)),.one (tv (.int .i64 0))]) ?_
  (iterate 4 refine o1 ?_);refine al 6 ?_;refine al 7 ?_;refine st ?_;refine st ?_;refine o1 ?_;refine nl ?_;refine sq ?_;refine rl ?_;refine ld ?_;refine ld ?_;refine o1 ?_
  refine st ?_;refine o1 ?_;refine nl ?_;refine rt ?_;obtain⟨hp9,hn9⟩:=Gh (a:=k) hk0
  obtain⟨e1,e2⟩:=hn9 hkn
  exact en (.inl rfl) rfl (dE (.cons (.agg (.cons (.id rfl) (.cons (.id rfl) (.cons (.id rfl) (.cons (.id rfl) .nil))))) (.cons (aP _) .nil))) (by decide) (fun h=>by cases h) (by rw[if_neg hk0];exact congrArg (fun f=>FV.tup [f,.one (tv (.int .i64 0))]) (wE e1 e2))
 refine sk ?_;refine sq ?_;have hkp:0<k':=by have h9:=mt Int.sign_neg_iff.2 h2;omega
 refine rl ?_;refine ld ?_;refine ld ?_;have hn6:=Bm (k:=k) (k':=k') (by omega)
 refine ca (Hz ha hb) Pz ⟨aB rfl,aB rfl,rfl⟩ (kF (((Int.gcd k k':Nat):Int))) ?_;refine al 3 ?_;refine st ?_;refine nl ?_;refine sq ?_;refine rl ?_;refine ld ?_;refine ld ?_
 refine ca (dW ha (Zn.of (k:=((Int.gcd k k':Nat):Int)) (by omega)) (zD (by omega))) kH ⟨aB rfl,aB rfl,rfl⟩ (.tup [kF ((k).fdiv ((Int.gcd k k':Nat):Int)),kF ((k).fmod ((Int.gcd k k':Nat):Int)),.one (tv (.int .i64 0))]) ?_
 (iterate 4 refine o1 ?_);refine al 4 ?_;refine al 5 ?_;refine st ?_;refine st ?_;refine o1 ?_;refine nl ?_;refine sq ?_;refine rl ?_;refine ld ?_;refine ld ?_
 refine ca (dW hb (Zn.of (k:=((Int.gcd k k':Nat):Int)) (by omega)) (zD (by omega))) kH ⟨aB rfl,aB rfl,rfl⟩ (.tup [kF ((k').fdiv ((Int.gcd k k':Nat):Int)),kF ((k').fmod ((Int.gcd k k':Nat):Int)),.one (tv (.int .i64 0))]) ?_
 (iterate 4 refine o1 ?_);refine al 6 ?_;refine al 7 ?_;refine st ?_;refine st ?_;refine o1 ?_;refine nl ?_;refine sq ?_;refine rl ?_;refine ld ?_;refine ld ?_;refine o1 ?_
 refine st ?_;refine o1 ?_;refine nl ?_;refine rt ?_;obtain⟨hp9,hn9⟩:=Gh (a:=k) hk0
 obtain⟨e1,e2⟩:=hp9 hkp
 exact en (.inl rfl) rfl (dE (.cons (.agg (.cons (.id rfl) (.cons (.id rfl) (.cons (.id rfl) (.cons (.id rfl) .nil))))) (.cons (aP _) .nil))) (by decide) (fun h=>by cases h) (by rw[if_neg hk0];exact congrArg (fun f=>FV.tup [f,.one (tv (.int .i64 0))]) (wE e1 e2))
theorem zZ {a:Fr4}{p:Rat}(ha:Qn a p):aE false Tryz.prog 47 [] [qF a] (aM (qF (.of (-p)))):=by
 refine bD Tryz.func47 rfl Tryz.ntmps47 rfl aA rfl fun N w c0 h0=>?_
 refine sq ?_;refine rl ?_;refine bx 0 ?_;refine al 1 ?_;refine nl ?_;refine sq ?_;refine rl ?_;refine ld ?_;refine ca (hH ha) qP ⟨aB rfl,rfl⟩ (qF (.of p)) ?_;refine st ?_
 refine nl ?_;refine sq ?_;refine rd [0,1] (fun i=>[6].contains i) mixed ?_
 refine dv 0 ?_;refine aU 1 ?_;refine dv 3 ?_;refine aU 4 ?_;refine aG 2 rfl (zY (eA ha.sz)) Qa ⟨aB rfl,rfl⟩ (kF (-p.num)) ?_;refine df 5 ?_;refine dst 6 ?_;refine aS ?_
 refine rt ?_
 exact en (.inl rfl) rfl (aV (.agg (.cons (.id rfl) (.cons (.id rfl) (.cons (.id rfl) (.cons (.id rfl) .nil)))))) (by decide) (fun h=>by cases h) (by unfold qF Fr4.of;rw[Rat.neg_num,Rat.neg_den];rfl)
theorem Tu {a b:Fr4}{p q:Rat}(ha:Qn a p) (hb:Qn b q) (hs:Sz 17179869184 p) (hs':Sz 17179869184 q):aE false Tryz.prog 130 [] [qF a,qF b] (aM (qF (.of (p+q)))):=by
 refine bD Tryz.func130 rfl Tryz.ntmps130 rfl aA rfl fun N w c0 h0=>?_
 have hs1:=hs.1
 have hs2:(dg 4294967296 ((p.den:Int)).natAbs).length≤17179869184:=hs.2
 have hs3:=hs'.1
 have hs4:(dg 4294967296 ((q.den:Int)).natAbs).length≤17179869184:=hs'.2
 refine sq ?_;refine rl ?_;refine bx 0 ?_;refine bx 1 ?_;refine al 2 ?_;refine nl ?_;refine sq ?_;refine rl ?_;refine ld ?_;refine ca (hH ha) qP ⟨aB rfl,rfl⟩ (qF (.of p)) ?_
 refine st ?_;refine nl ?_;refine sq ?_;refine rl ?_;refine ld ?_;refine ca (hH hb) qP ⟨aB rfl,rfl⟩ (qF (.of q)) ?_;refine st ?_;refine nl ?_
 refine md (γ:=Unit) (fun _=>cD [(4,.one (.pt 0 0)),(5,.one (.pt 1 0))]) (fun _=>([⟨33,0,[tv (.bool false),tv (.slice none 0 0),tv (.bool false),tv (.slice none 0 0)]⟩,⟨33,0,((Fr4.of (Rat.divInt (p.num*(q.den:Int)+q.num*(p.den:Int)) ((p.den:Int)*(q.den:Int)))).tr false).map .t⟩]:List Ob).map some) (fun _=>True) ?_ fun _ _=>?_
 ·refine rd [0,1,2] (fun i=>[22].contains i) mixed ?_
  refine dv 0 ?_;refine aU 1 ?_;refine dv 2 ?_;refine aU 3 ?_;refine dv 5 ?_;refine aU 6 ?_;refine dv 7 ?_;refine aU 8 ?_;refine dv 11 ?_;refine aU 12 ?_;refine dv 13 ?_
  refine aU 14 ?_;refine WO.two (i:=4) (j:=20) (by kernel_rfl) ?_ ?_
  ·have hn1:=cO (p.num) ((q.den:Int))
   refine cZ 4 rfl (fP (eA hs) (cN hs')) jG ⟨aB rfl,aB rfl,rfl⟩ (kF (p.num*(q.den:Int))) ?_;refine WO.two (i:=9) (j:=20) (by kernel_rfl) ?_ ?_
   ·have hn2:=cO (q.num) ((p.den:Int))
    refine cZ 9 rfl (fP (eA hs') (cN hs)) jG ⟨aB rfl,aB rfl,rfl⟩ (kF (q.num*(p.den:Int))) ?_;refine WO.two (i:=10) (j:=20) (by kernel_rfl) ?_ ?_
    ·have hn3:=fG (p.num*(q.den:Int)) (q.num*(p.den:Int))
     refine cZ 10 rfl (lT (Zn.of (k:=p.num*(q.den:Int)) (by omega)) (Zn.of (k:=q.num*(p.den:Int)) (by omega))) sZ ⟨aB rfl,aB rfl,rfl⟩ (kF (p.num*(q.den:Int)+q.num*(p.den:Int))) ?_
     refine WO.two (i:=15) (j:=20) (by kernel_rfl) ?_ ?_
     ·have hn4:=cO ((p.den:Int)) ((q.den:Int))
      refine cZ 15 rfl (fP (cN hs) (cN hs')) jG ⟨aB rfl,aB rfl,rfl⟩ (kF ((p.den:Int)*(q.den:Int))) ?_;refine WO.two (i:=16) (j:=20) (by kernel_rfl) ?_ ?_
      ·refine cZ 16 rfl (jF (Zn.of (k:=p.num*(q.den:Int)+q.num*(p.den:Int)) (by omega)) (Zn.of (k:=(p.den:Int)*(q.den:Int)) (by omega))) pK ⟨aB rfl,aB rfl,rfl⟩ (.tup [qF (.of (Rat.divInt (p.num*(q.den:Int)+q.num*(p.den:Int)) ((p.den:Int)*(q.den:Int)))),.one (tv (.int .i64 (if((p.den:Int)*(q.den:Int))=0 then 20 else 0)))]) ?_
       refine df 17 ?_;refine df 18 ?_;refine df 19 ?_;refine eP (key:=3) 20 (by kernel_rfl) rfl rfl aA rfl ⟨rfl,rfl,rfl,trivial⟩ ?_
       refine aT 21 (by kernel_rfl) rfl rfl aA rfl rfl rfl rfl ⟨rfl,rfl,rfl,trivial⟩ ?_
       refine cV 22 (by kernel_rfl) rfl rfl aA rfl (by trivial) ?_ (fun h=>by first | rfl | cases h)
       refine aS ?_;exact⟨(),trivial,aO h0 [2,3] _ _ (by decide) ⟨rfl,rfl,trivial⟩ ⟨oe rfl rfl,oe rfl rfl,rfl⟩⟩
      refine bV (key:=3) 20 rfl rfl aA rfl ⟨rfl,rfl,rfl,trivial⟩ ?_
      refine aG 16 rfl (jF (Zn.of (k:=p.num*(q.den:Int)+q.num*(p.den:Int)) (by omega)) (Zn.of (k:=(p.den:Int)*(q.den:Int)) (by omega))) pK ⟨aB rfl,aB rfl,rfl⟩ (.tup [qF (.of (Rat.divInt (p.num*(q.den:Int)+q.num*(p.den:Int)) ((p.den:Int)*(q.den:Int)))),.one (tv (.int .i64 (if((p.den:Int)*(q.den:Int))=0 then 20 else 0)))]) ?_
      refine df 17 ?_;refine df 18 ?_;refine df 19 ?_;refine aT 21 (by kernel_rfl) rfl rfl aA rfl rfl rfl rfl ⟨rfl,rfl,rfl,trivial⟩ ?_
      refine cV 22 (by kernel_rfl) rfl rfl aA rfl (by trivial) ?_ (fun h=>by first | rfl | cases h)
      refine aS ?_;exact⟨(),trivial,aO h0 [2,3] _ _ (by decide) ⟨rfl,rfl,trivial⟩ ⟨oe rfl rfl,oe rfl rfl,rfl⟩⟩
     refine bV (key:=3) 20 rfl rfl aA rfl ⟨rfl,rfl,rfl,trivial⟩ ?_;have hn5:=cO ((p.den:Int)) ((q.den:Int))
     refine aG 15 rfl (fP (cN hs) (cN hs')) jG ⟨aB rfl,aB rfl,rfl⟩ (kF ((p.den:Int)*(q.den:Int))) ?_
     refine aG 16 rfl (jF (Zn.of (k:=p.num*(q.den:Int)+q.num*(p.den:Int)) (by omega)) (Zn.of (k:=(p.den:Int)*(q.den:Int)) (by omega))) pK ⟨aB rfl,aB rfl,rfl⟩ (.tup [qF (.of (Rat.divInt (p.num*(q.den:Int)+q.num*(p.den:Int)) ((p.den:Int)*(q.den:Int)))),.one (tv (.int .i64 (if((p.den:Int)*(q.den:Int))=0 then 20 else 0)))]) ?_
     refine df 17 ?_;refine df 18 ?_;refine df 19 ?_;refine aT 21 (by kernel_rfl) rfl rfl aA rfl rfl rfl rfl ⟨rfl,rfl,rfl,trivial⟩ ?_
     refine cV 22 (by kernel_rfl) rfl rfl aA rfl (by trivial) ?_ (fun h=>by first | rfl | cases h)
     refine aS ?_;exact⟨(),trivial,aO h0 [2,3] _ _ (by decide) ⟨rfl,rfl,trivial⟩ ⟨oe rfl rfl,oe rfl rfl,rfl⟩⟩
    refine bV (key:=3) 20 rfl rfl aA rfl ⟨rfl,rfl,rfl,trivial⟩ ?_;have hn6:=fG (p.num*(q.den:Int)) (q.num*(p.den:Int))
    refine aG 10 rfl (lT (Zn.of (k:=p.num*(q.den:Int)) (by omega)) (Zn.of (k:=q.num*(p.den:Int)) (by omega))) sZ ⟨aB rfl,aB rfl,rfl⟩ (kF (p.num*(q.den:Int)+q.num*(p.den:Int))) ?_
    have hn7:=cO ((p.den:Int)) ((q.den:Int))
    refine aG 15 rfl (fP (cN hs) (cN hs')) jG ⟨aB rfl,aB rfl,rfl⟩ (kF ((p.den:Int)*(q.den:Int))) ?_
    refine aG 16 rfl (jF (Zn.of (k:=p.num*(q.den:Int)+q.num*(p.den:Int)) (by omega)) (Zn.of (k:=(p.den:Int)*(q.den:Int)) (by omega))) pK ⟨aB rfl,aB rfl,rfl⟩ (.tup [qF (.of (Rat.divInt (p.num*(q.den:Int)+q.num*(p.den:Int)) ((p.den:Int)*(q.den:Int)))),.one (tv (.int .i64 (if((p.den:Int)*(q.den:Int))=0 then 20 else 0)))]) ?_
    refine df 17 ?_;refine df 18 ?_;refine df 19 ?_;refine aT 21 (by kernel_rfl) rfl rfl aA rfl rfl rfl rfl ⟨rfl,rfl,rfl,trivial⟩ ?_
    refine cV 22 (by kernel_rfl) rfl rfl aA rfl (by trivial) ?_ (fun h=>by first | rfl | cases h)
    refine aS ?_;exact⟨(),trivial,aO h0 [2,3] _ _ (by decide) ⟨rfl,rfl,trivial⟩ ⟨oe rfl rfl,oe rfl rfl,rfl⟩⟩
   refine bV (key:=3) 20 rfl rfl aA rfl ⟨rfl,rfl,rfl,trivial⟩ ?_;have hn8:=cO (q.num) ((p.den:Int))
   refine aG 9 rfl (fP (eA hs') (cN hs)) jG ⟨aB rfl,aB rfl,rfl⟩ (kF (q.num*(p.den:Int))) ?_;have hn9:=fG (p.num*(q.den:Int)) (q.num*(p.den:Int))
   refine aG 10 rfl (lT (Zn.of (k:=p.num*(q.den:Int)) (by omega)) (Zn.of (k:=q.num*(p.den:Int)) (by omega))) sZ ⟨aB rfl,aB rfl,rfl⟩ (kF (p.num*(q.den:Int)+q.num*(p.den:Int))) ?_
   have hn10:=cO ((p.den:Int)) ((q.den:Int))
   refine aG 15 rfl (fP (cN hs) (cN hs')) jG ⟨aB rfl,aB rfl,rfl⟩ (kF ((p.den:Int)*(q.den:Int))) ?_
   refine aG 16 rfl (jF (Zn.of (k:=p.num*(q.den:Int)+q.num*(p.den:Int)) (by omega)) (Zn.of (k:=(p.den:Int)*(q.den:Int)) (by omega))) pK ⟨aB rfl,aB rfl,rfl⟩ (.tup [qF (.of (Rat.divInt (p.num*(q.den:Int)+q.num*(p.den:Int)) ((p.den:Int)*(q.den:Int)))),.one (tv (.int .i64 (if((p.den:Int)*(q.den:Int))=0 then 20 else 0)))]) ?_
   refine df 17 ?_;refine df 18 ?_;refine df 19 ?_;refine aT 21 (by kernel_rfl) rfl rfl aA rfl rfl rfl rfl ⟨rfl,rfl,rfl,trivial⟩ ?_
   refine cV 22 (by kernel_rfl) rfl rfl aA rfl (by trivial) ?_ (fun h=>by first | rfl | cases h)
   refine aS ?_;exact⟨(),trivial,aO h0 [2,3] _ _ (by decide) ⟨rfl,rfl,trivial⟩ ⟨oe rfl rfl,oe rfl rfl,rfl⟩⟩
  refine bV (key:=3) 20 rfl rfl aA rfl ⟨rfl,rfl,rfl,trivial⟩ ?_;have hn11:=cO (p.num) ((q.den:Int))
  refine aG 4 rfl (fP (eA hs) (cN hs')) jG ⟨aB rfl,aB rfl,rfl⟩ (kF (p.num*(q.den:Int))) ?_;have hn12:=cO (q.num) ((p.den:Int))
  refine aG 9 rfl (fP (eA hs') (cN hs)) jG ⟨aB rfl,aB rfl,rfl⟩ (kF (q.num*(p.den:Int))) ?_;have hn13:=fG (p.num*(q.den:Int)) (q.num*(p.den:Int))
  refine aG 10 rfl (lT (Zn.of (k:=p.num*(q.den:Int)) (by omega)) (Zn.of (k:=q.num*(p.den:Int)) (by omega))) sZ ⟨aB rfl,aB rfl,rfl⟩ (kF (p.num*(q.den:Int)+q.num*(p.den:Int))) ?_
  have hn14:=cO ((p.den:Int)) ((q.den:Int))
  refine aG 15 rfl (fP (cN hs) (cN hs')) jG ⟨aB rfl,aB rfl,rfl⟩ (kF ((p.den:Int)*(q.den:Int))) ?_
  refine aG 16 rfl (jF (Zn.of (k:=p.num*(q.den:Int)+q.num*(p.den:Int)) (by omega)) (Zn.of (k:=(p.den:Int)*(q.den:Int)) (by omega))) pK ⟨aB rfl,aB rfl,rfl⟩ (.tup [qF (.of (Rat.divInt (p.num*(q.den:Int)+q.num*(p.den:Int)) ((p.den:Int)*(q.den:Int)))),.one (tv (.int .i64 (if((p.den:Int)*(q.den:Int))=0 then 20 else 0)))]) ?_
  refine df 17 ?_;refine df 18 ?_;refine df 19 ?_;refine aT 21 (by kernel_rfl) rfl rfl aA rfl rfl rfl rfl ⟨rfl,rfl,rfl,trivial⟩ ?_
  refine cV 22 (by kernel_rfl) rfl rfl aA rfl (by trivial) ?_ (fun h=>by first | rfl | cases h)
  refine aS ?_;exact⟨(),trivial,aO h0 [2,3] _ _ (by decide) ⟨rfl,rfl,trivial⟩ ⟨oe rfl rfl,oe rfl rfl,rfl⟩⟩
 refine sq ?_;refine rl ?_;refine ld ?_;refine st ?_;refine nl ?_;refine rt ?_
 exact en (.inl rfl) rfl (aV (.agg (.cons (.id rfl) (.cons (.id rfl) (.cons (.id rfl) (.cons (.id rfl) .nil)))))) (by decide) (fun h=>by cases h) (by rw[←pZ];rfl)
theorem Aa {a b:Fr4}{p q:Rat}(ha:Qn a p) (hb:Qn b q) (hs:Sz 17179869184 p) (hs':Sz 17179869184 q):aE false Tryz.prog 43 [] [qF a,qF b] (aM (qF (.of (p*q)))):=by
 refine bD Tryz.func43 rfl Tryz.ntmps43 rfl aA rfl fun N w c0 h0=>?_
 have hs1:=hs.1
 have hs2:(dg 4294967296 ((p.den:Int)).natAbs).length≤17179869184:=hs.2
 have hs3:=hs'.1
 have hs4:(dg 4294967296 ((q.den:Int)).natAbs).length≤17179869184:=hs'.2
 refine sq ?_;refine rl ?_;refine bx 0 ?_;refine bx 1 ?_;refine al 2 ?_;refine nl ?_;refine sq ?_;refine rl ?_;refine ld ?_;refine ca (hH ha) qP ⟨aB rfl,rfl⟩ (qF (.of p)) ?_
 refine st ?_;refine nl ?_;refine sq ?_;refine rl ?_;refine ld ?_;refine ca (hH hb) qP ⟨aB rfl,rfl⟩ (qF (.of q)) ?_;refine st ?_;refine nl ?_
 refine md (γ:=Unit) (fun _=>cD [(4,.one (.pt 0 0)),(5,.one (.pt 1 0))]) (fun _=>([⟨33,0,[tv (.bool false),tv (.slice none 0 0),tv (.bool false),tv (.slice none 0 0)]⟩,⟨33,0,((Fr4.of (Rat.divInt (p.num*q.num) ((p.den:Int)*(q.den:Int)))).tr false).map .t⟩]:List Ob).map some) (fun _=>True) ?_ fun _ _=>?_
 ·refine rd [0,1,2] (fun i=>[16].contains i) mixed ?_
  refine dv 0 ?_;refine aU 1 ?_;refine dv 2 ?_;refine aU 3 ?_;refine dv 5 ?_;refine aU 6 ?_;refine dv 7 ?_;refine aU 8 ?_;refine WO.two (i:=4) (j:=14) (by kernel_rfl) ?_ ?_
  ·have hn1:=cO (p.num) (q.num)
   refine cZ 4 rfl (fP (eA hs) (eA hs')) jG ⟨aB rfl,aB rfl,rfl⟩ (kF (p.num*q.num)) ?_;refine WO.two (i:=9) (j:=14) (by kernel_rfl) ?_ ?_
   ·have hn2:=cO ((p.den:Int)) ((q.den:Int))
    refine cZ 9 rfl (fP (cN hs) (cN hs')) jG ⟨aB rfl,aB rfl,rfl⟩ (kF ((p.den:Int)*(q.den:Int))) ?_;refine WO.two (i:=10) (j:=14) (by kernel_rfl) ?_ ?_
    ·refine cZ 10 rfl (jF (Zn.of (k:=p.num*q.num) (by omega)) (Zn.of (k:=(p.den:Int)*(q.den:Int)) (by omega))) pK ⟨aB rfl,aB rfl,rfl⟩ (.tup [qF (.of (Rat.divInt (p.num*q.num) ((p.den:Int)*(q.den:Int)))),.one (tv (.int .i64 (if((p.den:Int)*(q.den:Int))=0 then 20 else 0)))]) ?_
     refine df 11 ?_;refine df 12 ?_;refine df 13 ?_;refine eP (key:=3) 14 (by kernel_rfl) rfl rfl aA rfl ⟨rfl,rfl,rfl,trivial⟩ ?_
     refine aT 15 (by kernel_rfl) rfl rfl aA rfl rfl rfl rfl ⟨rfl,rfl,rfl,trivial⟩ ?_
     refine cV 16 (by kernel_rfl) rfl rfl aA rfl (by trivial) ?_ (fun h=>by first | rfl | cases h)
     refine aS ?_;exact⟨(),trivial,aO h0 [2,3] _ _ (by decide) ⟨rfl,rfl,trivial⟩ ⟨oe rfl rfl,oe rfl rfl,rfl⟩⟩
    refine bV (key:=3) 14 rfl rfl aA rfl ⟨rfl,rfl,rfl,trivial⟩ ?_
    refine aG 10 rfl (jF (Zn.of (k:=p.num*q.num) (by omega)) (Zn.of (k:=(p.den:Int)*(q.den:Int)) (by omega))) pK ⟨aB rfl,aB rfl,rfl⟩ (.tup [qF (.of (Rat.divInt (p.num*q.num) ((p.den:Int)*(q.den:Int)))),.one (tv (.int .i64 (if((p.den:Int)*(q.den:Int))=0 then 20 else 0)))]) ?_
    refine df 11 ?_;refine df 12 ?_;refine df 13 ?_;refine aT 15 (by kernel_rfl) rfl rfl aA rfl rfl rfl rfl ⟨rfl,rfl,rfl,trivial⟩ ?_
    refine cV 16 (by kernel_rfl) rfl rfl aA rfl (by trivial) ?_ (fun h=>by first | rfl | cases h)
    refine aS ?_;exact⟨(),trivial,aO h0 [2,3] _ _ (by decide) ⟨rfl,rfl,trivial⟩ ⟨oe rfl rfl,oe rfl rfl,rfl⟩⟩
   refine bV (key:=3) 14 rfl rfl aA rfl ⟨rfl,rfl,rfl,trivial⟩ ?_;have hn3:=cO ((p.den:Int)) ((q.den:Int))
   refine aG 9 rfl (fP (cN hs) (cN hs')) jG ⟨aB rfl,aB rfl,rfl⟩ (kF ((p.den:Int)*(q.den:Int))) ?_
   refine aG 10 rfl (jF (Zn.of (k:=p.num*q.num) (by omega)) (Zn.of (k:=(p.den:Int)*(q.den:Int)) (by omega))) pK ⟨aB rfl,aB rfl,rfl⟩ (.tup [qF (.of (Rat.divInt (p.num*q.num) ((p.den:Int)*(q.den:Int)))),.one (tv (.int .i64 (if((p.den:Int)*(q.den:Int))=0 then 20 else 0)))]) ?_
   refine df 11 ?_;refine df 12 ?_;refine df 13 ?_;refine aT 15 (by kernel_rfl) rfl rfl aA rfl rfl rfl rfl ⟨rfl,rfl,rfl,trivial⟩ ?_
   refine cV 16 (by kernel_rfl) rfl rfl aA rfl (by trivial) ?_ (fun h=>by first | rfl | cases h)
   refine aS ?_;exact⟨(),trivial,aO h0 [2,3] _ _ (by decide) ⟨rfl,rfl,trivial⟩ ⟨oe rfl rfl,oe rfl rfl,rfl⟩⟩
  refine bV (key:=3) 14 rfl rfl aA rfl ⟨rfl,rfl,rfl,trivial⟩ ?_;have hn4:=cO (p.num) (q.num)
  refine aG 4 rfl (fP (eA hs) (eA hs')) jG ⟨aB rfl,aB rfl,rfl⟩ (kF (p.num*q.num)) ?_;have hn5:=cO ((p.den:Int)) ((q.den:Int))
  refine aG 9 rfl (fP (cN hs) (cN hs')) jG ⟨aB rfl,aB rfl,rfl⟩ (kF ((p.den:Int)*(q.den:Int))) ?_
  refine aG 10 rfl (jF (Zn.of (k:=p.num*q.num) (by omega)) (Zn.of (k:=(p.den:Int)*(q.den:Int)) (by omega))) pK ⟨aB rfl,aB rfl,rfl⟩ (.tup [qF (.of (Rat.divInt (p.num*q.num) ((p.den:Int)*(q.den:Int)))),.one (tv (.int .i64 (if((p.den:Int)*(q.den:Int))=0 then 20 else 0)))]) ?_
  refine df 11 ?_;refine df 12 ?_;refine df 13 ?_;refine aT 15 (by kernel_rfl) rfl rfl aA rfl rfl rfl rfl ⟨rfl,rfl,rfl,trivial⟩ ?_
  refine cV 16 (by kernel_rfl) rfl rfl aA rfl (by trivial) ?_ (fun h=>by first | rfl | cases h)
  refine aS ?_;exact⟨(),trivial,aO h0 [2,3] _ _ (by decide) ⟨rfl,rfl,trivial⟩ ⟨oe rfl rfl,oe rfl rfl,rfl⟩⟩
 refine sq ?_;refine rl ?_;refine ld ?_;refine st ?_;refine nl ?_;refine rt ?_
 exact en (.inl rfl) rfl (aV (.agg (.cons (.id rfl) (.cons (.id rfl) (.cons (.id rfl) (.cons (.id rfl) .nil)))))) (by decide) (fun h=>by cases h) (congrArg (fun q=>qF (.of q)) (by rw[←Rat.divInt_mul_divInt,Rat.num_divInt_den,Rat.num_divInt_den]))
theorem KU {a b:Fr4}{p q:Rat}(ha:Qn a p) (hb:Qn b q) (hs:Sz 17179869184 p) (hs':Sz 17179869184 q):aE false Tryz.prog 79 [] [qF a,qF b] (aM (qF (.of (p-q)))):=by
 refine bD Tryz.func79 rfl Tryz.ntmps79 rfl aA rfl fun N w c0 h0=>?_
 refine sq ?_;refine rl ?_;refine bx 0 ?_;refine bx 1 ?_;refine al 2 ?_;refine nl ?_;refine sq ?_;refine rd [0,1,2] (fun i=>[4].contains i) mixed ?_
 refine aU 0 ?_;refine aU 1 ?_;refine aG 2 rfl (zZ hb) Qb ⟨aB rfl,rfl⟩ (qF (.of (-q))) ?_
 refine aG 3 rfl (Tu ha (Qn.of (p:=(-q)) (pD hs')) hs (pD hs')) BR ⟨aB rfl,aB rfl,rfl⟩ (qF (.of (p+(-q)))) ?_;refine dst 4 ?_;refine aS ?_;refine rt ?_
 exact en (.inl rfl) rfl (aV (.agg (.cons (.id rfl) (.cons (.id rfl) (.cons (.id rfl) (.cons (.id rfl) .nil)))))) (by decide) (fun h=>by cases h) (by rw[Rat.sub_eq_add_neg];rfl)
theorem Bz {a:Fr4}{p:Rat}(ha:Qn a p):aE true Tryz.prog 46 [] [qF a] (aM (.one (tv (.int .i64 p.num.sign)))):=by
 refine bD Tryz.func46 rfl Tryz.ntmps46 rfl aA rfl fun N w c0 h0=>?_
 refine sq ?_;refine rl ?_;refine bx 0 ?_;refine o1 ?_;refine nl ?_;refine sq ?_;refine rl ?_;refine ld ?_;refine ca (hH ha) qP ⟨aB rfl,rfl⟩ (qF (.of p)) ?_;refine o1 ?_
 refine ca (jW (eA ha.sz)) sY ⟨aB rfl,rfl⟩ (.one (tv (.int .i64 (p.num).sign))) ?_;refine o1 ?_;refine nl ?_;refine rt ?_
 exact en (.inl rfl) rfl (aV (aP _)) (by decide) (fun _=>trivial) rfl
theorem Ia {a b:Fr4}{p q:Rat}(ha:Qn a p) (hb:Qn b q) (hs:Sz 17179869184 p) (hs':Sz 17179869184 q):aE true Tryz.prog 35 [] [qF a,qF b] (aM (.one (tv (.int .i64 (p-q).num.sign)))):=by
 refine bD Tryz.func35 rfl Tryz.ntmps35 rfl aA rfl fun N w c0 h0=>?_
 refine sq ?_;refine rl ?_;refine bx 0 ?_;refine bx 1 ?_;refine o1 ?_;refine nl ?_;refine sq ?_;refine rl ?_;refine ld ?_;refine ld ?_
 refine ca (KU ha hb hs hs') UC ⟨aB rfl,aB rfl,rfl⟩ (qF (.of (p-q))) ?_
 refine ca (Bz (Qn.of (p:=(p-q)) (Tv hs hs'))) Yb ⟨aB rfl,rfl⟩ (.one (tv (.int .i64 (p-q).num.sign))) ?_;refine o1 ?_;refine nl ?_;refine rt ?_
 exact en (.inl rfl) rfl (aV (aP _)) (by decide) (fun _=>trivial) rfl
theorem Ab {a b:Fr4}{p q:Rat}(ha:Qn a p) (hb:Qn b q) (hs:Sz 17179869184 p) (hs':Sz 17179869184 q):aE false Tryz.prog 37 [] [qF a,qF b] (aM (.tup [qF (.of (p/q)),.one (tv (.int .i64 (if q=0 then 20 else 0)))])):=by
 refine bD Tryz.func37 rfl Tryz.ntmps37 rfl aA rfl fun N9 w9 c0 h0=>?_
 have hs1:=hs.1
 have hs2:(dg 4294967296 ((p.den:Int)).natAbs).length≤17179869184:=hs.2
 have hs3:=hs'.1
 have hs4:(dg 4294967296 ((q.den:Int)).natAbs).length≤17179869184:=hs'.2
 refine sq ?_;refine rl ?_;refine bx 0 ?_;refine bx 1 ?_;refine al 2 ?_;refine o1 ?_;refine nl ?_;refine sq ?_;refine rl ?_;refine ld ?_
 refine ca (hH ha) qP ⟨aB rfl,rfl⟩ (qF (.of p)) ?_;refine st ?_;refine nl ?_;refine sq ?_;refine rl ?_;refine ld ?_;refine ca (hH hb) qP ⟨aB rfl,rfl⟩ (qF (.of q)) ?_
 refine st ?_;refine nl ?_;refine sq ?_;refine rd [0,1,2] (fun i=>[13,14].contains i) mixed ?_
 refine dv 0 ?_;refine aU 1 ?_;refine dv 2 ?_;refine aU 3 ?_;refine dv 5 ?_;refine aU 6 ?_;refine dv 7 ?_;refine aU 8 ?_;have hn1:=cO (p.num) ((q.den:Int))
 refine aG 4 rfl (fP (eA hs) (cN hs')) jG ⟨aB rfl,aB rfl,rfl⟩ (kF (p.num*(q.den:Int))) ?_;have hn2:=cO ((p.den:Int)) (q.num)
 refine aG 9 rfl (fP (cN hs) (eA hs')) jG ⟨aB rfl,aB rfl,rfl⟩ (kF ((p.den:Int)*q.num)) ?_
 refine aG 10 rfl (jF (Zn.of (k:=(p.num*(q.den:Int))) (by omega)) (Zn.of (k:=((p.den:Int)*q.num)) (by omega))) pK ⟨aB rfl,aB rfl,rfl⟩ (.tup [qF (.of (Rat.divInt ((p.num*(q.den:Int))) (((p.den:Int)*q.num)))),.one (tv (.int .i64 (if(((p.den:Int)*q.num))=0 then 20 else 0)))]) ?_
 refine df 11 ?_;refine df 12 ?_;refine dst 13 ?_;refine cV 14 (by kernel_rfl) rfl rfl aA rfl (by trivial) ?_ (fun h=>by first | rfl | cases h)
 refine aS ?_;refine rt ?_
 exact en (.inl rfl) rfl (dE (.cons (.agg (.cons (.id rfl) (.cons (.id rfl) (.cons (.id rfl) (.cons (.id rfl) .nil))))) (.cons (aP _) .nil))) (by decide) (fun h=>by cases h) (by have e9:(if((p.den:Int)*q.num)=0 then(20:Int)else 0)=if q=0 then 20 else 0:=(by simp only[Hk]);rw[e9,Pb];rfl)
theorem Yc {X os:List Nat}{k d rest:Nat}(h0:0<k) (hk:k≤X.length) (h:vl 65536 os*d+rest=vl 65536 (X.drop k)):
  vl 65536 (((65536*rest+nth X (k-1))/d)::os)*d+(65536*rest+nth X (k-1))%d=vl 65536 (X.drop (k-1)):=by
 rw[iH 65536 h0 hk,←h,fA,Nat.add_mul,Nat.mul_add,Nat.mul_assoc]
 have h2:=Nat.div_add_mod (65536*rest+nth X (k-1)) d
 rw[Nat.mul_comm]at h2
 omega
theorem Yd {X os:List Nat}{d rest:Nat}(hd:rest<d) (h:vl 65536 os*d+rest=vl 65536 (X.drop 0)):vl 65536 os=vl 65536 X/d∧rest=vl 65536 X%d:=by
 rw[List.drop_zero,Nat.mul_comm]at h
 refine⟨?_,?_⟩
 ·rw[←h,Nat.mul_add_div (by omega),Nat.div_eq_of_lt hd,Nat.add_zero]
 rw[←h,Nat.mul_add_mod,Nat.mod_eq_of_lt hd]
theorem Tw {rest d x:Nat}(h:rest<d) (hx:x<65536):(65536*rest+x)/d<65536:=by
 rw[Nat.div_lt_iff_lt_mul (by omega)]
 have:65536*(rest+1)≤65536*d:=Nat.mul_le_mul_left _ h
 omega
theorem FA {k v:Nat}{os:List Nat}(h:0<k):(List.replicate k 0++os).set (k-1) v=List.replicate (k-1) 0++v::os:=by
 obtain⟨j,rfl⟩:∃j,k=j+1:=⟨k-1,by omega⟩
 rw[List.replicate_succ',List.append_assoc,List.set_append_right _ _ (by simp)]
 simp
theorem Kq {xs:List Nat}{d:Nat}(hx:xs.length≤1099511627776) (hlx:Lim 4294967296 xs) (hd0:0<d) (hd:d<4294967296):aE true Tryz.prog 106 [] [.one (.t (sU false xs)),.one (tv (.int .u32 ((d:Nat):Int)))] (aM (.tup [.one (.t (sU true (dg 4294967296 (vl 4294967296 xs/d)))),.one (tv (.int .u32 ((vl 4294967296 xs%d:Nat):Int))),.one (tv (.int .i64 0))])):=by
 refine bD Tryz.func106 rfl Tryz.ntmps106 rfl aA rfl fun N9 w9 c0 h0=>?_
 refine sq ?_;refine rl ?_;(iterate 3 refine o1 ?_);refine nl ?_;refine sq ?_;refine sq ?_;refine rl ?_;refine o1 ?_;refine o1 ?_;refine nl ?_;refine bN rfl (fun h1=>?_) (fun h1=>?_)
 ·omega
 refine sk ?_;refine sq ?_;refine rl ?_;refine o1 ?_;refine ca (iL hx hlx) qE ⟨a1 rfl,rfl⟩ (.one (.t (sI false (dg 65536 (vl 4294967296 xs))))) ?_;refine o1 ?_;refine nl ?_
 refine sq ?_;have hdx:=dO (v:=vl 4294967296 xs) (L:=xs.length) (by rw[dU (by omega) hlx];exact bZ _)
 have hX:=aN (B:=65536) (by omega) (vl 4294967296 xs)
 have hvX:=bO (B:=65536) (by omega) (vl 4294967296 xs)
 generalize dg 65536 (vl 4294967296 xs)=X at hdx hX hvX⊢;refine rl ?_;refine o1 ?_;refine o1 ?_;refine mk (m:=X.length) 0 (by omega) (yB _) ?_
 refine o1 ?_;refine nl ?_;refine sq ?_;refine rl ?_;refine o1 ?_;refine nl ?_;refine sq ?_;refine sq ?_;refine rl ?_;(iterate 4 refine o1 ?_);refine nl ?_;refine bl ?_
 refine lp (γ:=Nat×Nat×List Nat) (fun s=>cD [(1,.one (tv (.int .u32 ((d:Nat):Int)))),(7,.one (.t (sI false X))),(8,.one (.sl 0 0 (X.length))),(9,.one (tv (.int .i64 ((s.2.1:Nat):Int)))),(10,.one (tv (.int .i64 (((s.1:Nat):Int)-1))))]) (fun s=>[(⟨3,1,(dM (List.replicate s.1 0++s.2.2)).map .t⟩:Ob)].map some) (fun s=>s.1≤X.length∧Lim 65536 s.2.2∧s.2.2.length+s.1=X.length∧s.2.1<d∧vl 65536 s.2.2*d+s.2.1=vl 65536 (X.drop s.1)) (fun s=>s.1) (X.length,0,[]) ⟨Nat.le_refl _,Lim.nil,Nat.zero_add _,hd0,(by rw[List.drop_length];simp[vl])⟩ (aO h0 [0] _ _ (by decide) ⟨rfl,rfl,rfl,rfl,rfl,trivial⟩ ⟨cM (congrArg (fun l:List Nat=>some (⟨3,1,(dM l).map .t⟩:Ob)) ((List.append_nil _).symm)),rfl⟩) ?_
 rintro⟨k,rest,os⟩ ⟨hk,hol,hos,hr,hv⟩;dsimp only at hk hol hos hr hv⊢;have hn:=hX.nth (by omega) (k-1)
 have hlen:(List.replicate k 0++os).length=X.length:=by rw[List.length_append,List.length_replicate];omega
 refine sq ?_;refine sq ?_;refine rl ?_;refine o1 ?_;refine o1 ?_;refine nl ?_;refine bN rfl (fun h2=>?_) (fun h2=>?_)
 ·refine sk ?_;refine sq ?_;refine bl ?_;refine sq ?_;refine rl ?_;refine o1 ?_;refine o1 ?_;refine WL.cast (t:=27) (u':=.int .i64 ((65536*rest:Nat):Int)) rfl (aH (by omega)) ?_
  refine o1 ?_;refine o1 ?_;refine WL.cast (t:=29) (u':=.int .i64 ((k-1:Nat):Int)) rfl (aH (by omega)) ?_
  refine o1 ?_;refine kD ([.v (.int .i64 ((nth X (k-1):Nat):Int))]) (eM X (k:=k-1) (by omega)) ?_
  refine o1 ?_;refine WL.cast (t:=32) (u':=.int .i64 ((65536*rest+(nth X (k-1)):Nat):Int)) rfl (aH (by omega)) ?_
  refine o1 ?_;refine nl ?_;refine sq ?_;refine rl ?_;refine o1 ?_;refine o1 ?_;refine WL.cast (t:=34) (u':=.int .i64 ((k-1:Nat):Int)) rfl (aH (by omega)) ?_
  (iterate 3 refine o1 ?_);refine WL.cast (t:=37) (u':=.int .i64 ((d:Nat):Int)) rfl (aH (by omega)) ?_
  refine o1 ?_ (hC:=(fK d (by omega) (by simp only[fX];omega)))
  refine WL.cast (t:=38) (u':=.int .i64 (((65536*rest+(nth X (k-1)))/d:Nat):Int)) rfl (aH (eK _ d)) ?_;refine o1 ?_
  refine Dj (oR (List.replicate k 0++os) (k:=k-1) (v:=(65536*rest+(nth X (k-1)))/d) (by omega)) (rP (List.replicate k 0++os) (by omega)) ?_
  refine nl ?_;refine rl ?_;(iterate 3 refine o1 ?_);refine WL.cast (t:=42) (u':=.int .i64 ((d:Nat):Int)) rfl (aH (by omega)) ?_
  refine o1 ?_ (hC:=(by omega))
  refine WL.cast (t:=43) (u':=.int .i64 (((65536*rest+(nth X (k-1)))%d:Nat):Int)) rfl (aH (fF _ d)) ?_;refine o1 ?_;refine nl ?_;refine rl ?_;(iterate 3 refine o1 ?_)
  refine nl ?_
  exact⟨(k-1,(65536*rest+nth X (k-1))%d,(65536*rest+nth X (k-1))/d::os),by dsimp only;omega,⟨by dsimp only;omega,Lim.cons (Tw hr hn) hol,by dsimp only;rw[List.length_cons];omega,Nat.mod_lt _ (by omega),Yc (by omega) hk hv⟩,aO h0 [0] _ _ (by decide) ⟨rfl,rfl,rfl,rfl,kC (by omega),trivial⟩ ⟨cM (congrArg (fun l:List Nat=>some (⟨3,1,(dM l).map .t⟩:Ob)) (FA (by omega))),rfl⟩⟩
 refine ex ?_;refine sq ?_;refine rl ?_;have hk0:k=0:=by omega
 subst hk0;obtain⟨e1,e2⟩:=Yd hr hv
 rw[hvX]at e1 e2;refine WL.sub (vD (i:=8) (zs':=os) rfl rfl rfl (by simp;omega) rfl) ?_
 refine o1 ?_;refine gG 1 (tA (by omega) (by assumption)) Fl ⟨a1 rfl,rfl⟩ ?_
 refine o1 ?_;refine o1 ?_;refine WL.cast (t:=47) (u':=.int .u32 ((rest:Nat):Int)) rfl (aH (by omega)) ?_
 (iterate 3 refine o1 ?_);refine nl ?_;refine rt ?_
 exact en (.inl rfl) rfl (gP (.cons (.one (.sl (trs:=aR (dg 4294967296 (vl 65536 os))) rfl rfl (bG _) (aY _))) (.cons (aP _) (.cons (aP _) .nil)))) (by decide) (fun _=>⟨.inl ⟨rfl,eB _⟩,trivial,trivial,trivial⟩) (by rw[e1,←e2];rfl)
theorem FB {u d:Nat}(h:(dg 4294967296 u).length≤1099511627776) (hd0:0<d) (hd:d<4294967296):aE true Tryz.prog 106 [] [.one (.t (sU false (dg 4294967296 u))),.one (tv (.int .u32 ((d:Nat):Int)))] (aM (.tup [.one (.t (sU true (dg 4294967296 (u/d)))),.one (tv (.int .u32 ((u%d:Nat):Int))),.one (tv (.int .i64 0))])):=by
 have h1:=Kq h (aN (by omega) u) hd0 hd
 rwa[bO (by omega)]at h1
theorem KV {a:Zi}{k:Int}(ha:Zn a k) (hs:(dg 4294967296 k.natAbs).length≤1000000):aE true Tryz.prog 53 [] [gF a] (aM (.one (tv (.string (aC (Se k)))))):=by
 refine bD Tryz.func53 rfl Tryz.ntmps53 rfl aA rfl fun N9 w9 c0 h0=>?_
 have hdl:=Wz hs
 refine sq ?_;refine rl ?_;refine bx 0 ?_;refine o1 ?_;refine nl ?_;refine sq ?_;refine rl ?_;refine ld ?_;refine ca (fH ha) mT ⟨aB rfl,rfl⟩ (kF (k)) ?_;refine st ?_;refine nl ?_
 refine sq ?_;refine rl ?_;refine o1 ?_;refine nl ?_;refine sq ?_;refine rl ?_;refine o1 ?_;refine ld ?_;refine o1 ?_;refine nl ?_;refine sq ?_;refine bl ?_
 refine lp (γ:=List Nat×Nat) (fun s=>cD [(1,.one (.pt 0 0)),(3,.one (tv (.string (aC ((dL s.1).reverse))))),(4,.one (.t (sU false (dg 4294967296 s.2))))]) (fun s=>[(⟨31,0,[tv (.bool (aL (k))),.t (sU false (dg 4294967296 (k).natAbs))]⟩:Ob)].map some) (fun s=>Lim 10 s.1∧s.1++dg 10 s.2=dg 10 (k).natAbs∧s.2≤(k).natAbs) (fun s=>s.2) ([],(k).natAbs) ⟨Lim.nil,rfl,Nat.le_refl _⟩ (aO h0 [0] _ _ (by decide) ⟨rfl,rfl,rfl,trivial⟩ ⟨oe rfl rfl,rfl⟩) ?_
 rintro⟨ds,u⟩ ⟨hd,hv,hu⟩;dsimp only at hd hv hu⊢;have hul:=dG hu
 have hdl2:=congrArg List.length hv
 rw[List.length_append]at hdl2;refine sq ?_;refine sq ?_;refine rl ?_;(iterate 3 refine o1 ?_);refine nl ?_;refine bN rfl (fun h1=>?_) (fun h1=>?_)
 ·refine sk ?_;refine bl ?_;refine sq ?_;have hup:=sT (B:=4294967296) (u:=u) (by omega)
  have hdp:=lG (B:=10) (n:=u) (by omega) (by omega)
  refine rl ?_;refine o1 ?_
  refine ca (FB (u:=u) (d:=10) (by omega) (by omega) (by omega)) QD ⟨a1 rfl,a1 rfl,rfl⟩ (.tup [.one (.t (sU false (dg 4294967296 (u/10)))),.one (tv (.int .u32 ((u%10:Nat):Int))),.one (tv (.int .i64 0))]) ?_
  (iterate 7 refine o1 ?_);refine nl ?_;refine sq ?_;refine rl ?_;refine o1 ?_;refine o1 ?_;refine WL.cast (t:=22) (u':=.int .u32 ((48+(u%10):Nat):Int)) rfl (aH (by omega)) ?_
  refine o1 ?_;refine WL.cast (t:=23) (u':=.int .u8 ((48+(u%10):Nat):Int)) rfl (aH (by omega)) ?_
  refine bs 1 ?_;refine SH (xs:=[48+(u%10)]) (Sx rfl rfl) rfl ?_;refine o1 ?_
  refine o1 ?_ (hC:=(by rw[aF,aF,List.length_reverse,gE];show 1+ds.length≤_;omega))
  refine WL.cast (t:=27) (u':=.string (aC ((dL (ds++[u%10])).reverse))) rfl (congrArg Value.string ((fM _ _).trans (congrArg aC (by simp[dL])))) ?_
  refine o1 ?_;refine nl ?_;refine rl ?_;refine o1 ?_;refine o1 ?_;refine nl ?_
  exact⟨(ds++[u%10],u/10),by dsimp only;omega,⟨hd.append (Lim.cons (Nat.mod_lt _ (by omega)) Lim.nil),(by dsimp only;rw[List.append_assoc,←hv,hdp];rfl),(by dsimp only;omega)⟩,aO h0 [0] _ _ (by decide) ⟨rfl,rfl,rfl,trivial⟩ ⟨oe rfl rfl,rfl⟩⟩
 refine ex ?_;refine sq ?_;refine sq ?_;have hu0:u=0:=(dR (B:=4294967296) (by omega)).1 (List.eq_nil_of_length_eq_zero (by omega))
 rw[hu0,fR,List.append_nil]at hv;refine rl ?_;refine o1 ?_;refine o1 ?_
 refine WL.cast (t:=30) (u':=.bool (decide ((dL ds).reverse=[]))) rfl (congrArg Value.bool (iD (mO (wH hd)))) ?_;refine nl ?_;refine iW rfl (fun h2=>?_) (fun h2=>?_)
 ·refine sq ?_;refine rl ?_;refine o1 ?_;refine nl ?_;refine rt ?_;have hk0:k=0:=by
   have h9:=congrArg List.length (of_decide_eq_true h2)
   rw[List.length_reverse,gE,hv,List.length_nil]at h9;have h8:=(dR (B:=10) (by omega)).1 (List.eq_nil_of_length_eq_zero h9)
   omega
  subst hk0;exact en (.inl rfl) rfl (aV (aP _)) (by decide) (fun _=>trivial) (congrArg (fun z=>FV.one (tv (.string z))) (rfl))
 refine sk ?_;refine sq ?_;refine sq ?_;refine rl ?_;refine o1 ?_;refine ld ?_;refine nl ?_;refine iW rfl (fun h3=>?_) (fun h3=>?_)
 ·refine sq ?_;refine rl ?_;refine o1 ?_;refine o1 ?_ (hC:=(by rw[aF,List.length_reverse,gE];show 1+ds.length≤_;omega))
  refine WL.cast (t:=34) (u':=.string (aC (45::(dL ds).reverse))) rfl (congrArg Value.string (fM [45] _)) ?_;refine o1 ?_;refine nl ?_;refine rt ?_
  have hk0:(k).natAbs≠0:=fun h9=>by
   rw[h9,fR]at hv;rw[hv]at h2;simp[dL]at h2
  have ht:tx (k).natAbs=(dL ds).reverse:=by unfold tx;rw[if_neg hk0,hv]
  exact en (.inl rfl) rfl (aV (aP _)) (by decide) (fun _=>trivial) (congrArg (fun z=>FV.one (tv (.string z))) (congrArg aC (by unfold Se;rw[if_pos (JL h3),ht])))
 refine sk ?_;refine sq ?_;refine rl ?_;refine o1 ?_;refine o1 ?_;refine nl ?_;refine rt ?_;have hk0:(k).natAbs≠0:=fun h9=>by
  rw[h9,fR]at hv;rw[hv]at h2;simp[dL]at h2
 have ht:tx (k).natAbs=(dL ds).reverse:=by unfold tx;rw[if_neg hk0,hv]
 exact en (.inl rfl) rfl (aV (aP _)) (by decide) (fun _=>trivial) (congrArg (fun z=>FV.one (tv (.string z))) (congrArg aC (by unfold Se;rw[if_neg (JM h3),ht])))
theorem yC {l m:List Nat}{a:Nat}(hl:Lim 256 l) (hm:l.drop a=m) (ha:a≤10000000) (hn9:l.length≤10000000):aE true Tryz.prog 129 [] [.one (tv (.string (aC l))),.one (tv (.int .i64 ((a:Nat):Int)))] (aM (.one (tv (.int .i64 (((wh m).length:Nat):Int))))):=by
 refine bD Tryz.func129 rfl Tryz.ntmps129 rfl aA rfl fun N9 w9 c0 h0=>?_
 have hwl9:(wh m).length≤l.length:=by rw[←hm];exact Nat.le_trans (zC _) (by rw[List.length_drop];omega)
 refine sq ?_;refine rl ?_;refine o1 ?_;refine nl ?_;refine sq ?_;refine rl ?_;refine o1 ?_;refine nl ?_;refine sq ?_;refine bl ?_
 refine lp (γ:=Nat) (fun s=>cD [(0,.one (tv (.string (aC l)))),(1,.one (tv (.int .i64 ((a:Nat):Int)))),(5,.one (tv (.int .i64 ((s:Nat):Int))))]) (fun s=>([]:List Ob).map some) (fun s=>s≤(wh m).length) (fun s=>l.length-s) 0 (Nat.zero_le _) (aO h0 [] _ _ (by decide) ⟨rfl,rfl,rfl,trivial⟩ rfl) ?_
 rintro n hn;refine sq ?_;refine sq ?_;refine rl ?_;(iterate 3 refine o1 ?_);refine WL.cast (t:=8) (u':=.int .i64 ((a+n:Nat):Int)) rfl (aH (by omega)) ?_
 refine o1 ?_;refine o1 ?_;refine WL.cast (t:=10) (u':=.int .i64 ((l.length:Nat):Int)) rfl (congrArg (fun n:Nat=>Value.int .i64 (n:Int)) (aF _)) ?_
 refine o1 ?_;refine o1 ?_;refine WL.split (t:=12) rfl (fun h1=>?_) (fun h1=>?_)
 ·(iterate 4 refine o1 ?_);refine WL.cast (t:=16) (u':=.int .i64 ((a+n:Nat):Int)) rfl (aH (by omega)) ?_
  refine o1 ?_ (hC:=(by rw[aF];omega))
  refine WL.cast (t:=17) (u':=.int .u8 (((nth l (a+n)):Nat):Int)) rfl (congrArg (fun n:Nat=>Value.int .u8 (n:Int)) (eI (i:=a+n) (by omega) (dT hl (by omega)))) ?_
  (iterate 3 refine o1 ?_);refine WL.split (t:=20) rfl (fun h2=>?_) (fun h2=>?_)
  ·(iterate 4 refine o1 ?_);refine WL.cast (t:=24) (u':=.int .i64 ((a+n:Nat):Int)) rfl (aH (by omega)) ?_
   refine o1 ?_ (hC:=(by rw[aF];omega))
   refine WL.cast (t:=25) (u':=.int .u8 (((nth l (a+n)):Nat):Int)) rfl (congrArg (fun n:Nat=>Value.int .u8 (n:Int)) (eI (i:=a+n) (by omega) (dT hl (by omega)))) ?_
   refine o1 ?_;refine o1 ?_;refine nl ?_;refine bN rfl (fun h3=>?_) (fun h3=>?_)
   ·refine sk ?_;refine bl ?_;refine rl ?_;refine o1 ?_;refine o1 ?_;refine WL.cast (t:=29) (u':=.int .i64 ((n+1:Nat):Int)) rfl (aH (by omega)) ?_
    refine o1 ?_;refine nl ?_;exact⟨n+1,by omega,ST hm hn (by omega) (by omega) (by omega),aO h0 [] _ _ (by decide) ⟨rfl,rfl,rfl,trivial⟩ rfl⟩
   refine ex ?_;refine sq ?_;refine rl ?_;refine o1 ?_;refine o1 ?_;refine nl ?_;refine rt ?_;have he:=Xe hm hn (.inr (by omega))
   exact en (.inl rfl) rfl (aV (aP _)) (by decide) (fun _=>trivial) (congrArg (fun z=>FV.one (tv (.int .i64 z))) (by rw[he]))
  (iterate 6 refine cG ?_);refine o1 ?_;refine nl ?_;refine fD rfl ?_;refine ex ?_;refine sq ?_;refine rl ?_;refine o1 ?_;refine o1 ?_;refine nl ?_;refine rt ?_
  have he:=Xe hm hn (.inr (by omega))
  exact en (.inl rfl) rfl (aV (aP _)) (by decide) (fun _=>trivial) (congrArg (fun z=>FV.one (tv (.int .i64 z))) (by rw[he]))
 (iterate 6 refine cG ?_);refine o1 ?_;refine o1 ?_;(iterate 6 refine cG ?_);refine o1 ?_;refine nl ?_;refine fD rfl ?_;refine ex ?_;refine sq ?_;refine rl ?_;refine o1 ?_;refine o1 ?_
 refine nl ?_;refine rt ?_;have he:=Xe hm hn (.inl (by omega))
 exact en (.inl rfl) rfl (aV (aP _)) (by decide) (fun _=>trivial) (congrArg (fun z=>FV.one (tv (.int .i64 z))) (by rw[he]))
theorem KW {m:List Nat}(h:(wh m).length=0∨(1<(wh m).length∧nth m 0=48)):b1 m=true:=by
 unfold b1
 simpa using h
theorem KX {m:List Nat}(h:¬((wh m).length=0∨(1<(wh m).length∧nth m 0=48))):b1 m=false:=by
 unfold b1
 rw[Bool.eq_false_iff]
 intro h2
 exact h (by simpa using h2)
theorem Mj {l:List Nat}{a b:Nat}{c:Bool}(hB:iB (aI l)=false) (ha:a=(wh (aI l)).length) (hb:b=(pl (aI l)).length) (hc:c=decide ((rr (aI l))=[])):FV.tup [.one (tv (.int .i64 ((a:Nat):Int))),.one (tv (.int .i64 ((b:Nat):Int))),.one (tv (.bool c))]=FV.tup [.one (tv (.int .i64 ((tX l:Nat):Int))),.one (tv (.int .i64 ((tY l:Nat):Int))),.one (tv (.bool (xA l)))]:=by
 unfold tX tY xA
 rw[hB,ha,hb,hc]
 rfl
theorem KY {l:List Nat}(hl:Lim 256 l) (hn9:l.length≤1000000):aE true Tryz.prog 77 [] [.one (tv (.string (aC l)))] (aM (.tup [.one (tv (.int .i64 ((tX l:Nat):Int))),.one (tv (.int .i64 ((tY l:Nat):Int))),.one (tv (.bool (xA l)))])):=by
 refine bD Tryz.func77 rfl Tryz.ntmps77 rfl aA rfl fun N9 w9 c0 h0=>?_
 have hal:=rD l
 have hwl:=zC (aI l)
 have ha1:gC l≤1:=by unfold gC;split <;> omega
 refine sq ?_;refine rl ?_;(iterate 3 refine o1 ?_);refine nl ?_;refine sq ?_;refine rl ?_;refine o1 ?_;refine nl ?_
 refine md (γ:=Unit) (fun _=>cD [(0,.one (tv (.string (aC l)))),(5,.one (tv (.int .i64 (((gC l):Nat):Int))))]) (fun _=>([]:List Ob).map some) (fun _=>True) ?_ fun _ _=>?_
 ·refine sq ?_;refine rl ?_;refine o1 ?_;refine o1 ?_;refine WL.cast (t:=10) (u':=.int .i64 ((l.length:Nat):Int)) rfl (congrArg (fun n:Nat=>Value.int .i64 (n:Int)) (aF _)) ?_
  refine o1 ?_;refine o1 ?_;refine WL.split (t:=12) rfl (fun h1=>?_) (fun h1=>?_)
  ·refine o1 ?_;refine o1 ?_ (hC:=(by rw[aF];show 0<l.length;omega))
   refine WL.cast (t:=14) (u':=.int .u8 (((nth l (0)):Nat):Int)) rfl (congrArg (fun n:Nat=>Value.int .u8 (n:Int)) (eI (i:=0) (by omega) (dT hl (by omega)))) ?_
   refine o1 ?_;refine o1 ?_;refine nl ?_;refine bN rfl (fun h2=>?_) (fun h2=>?_)
   ·refine rl ?_;refine o1 ?_;refine nl ?_;exact⟨(),trivial,aO h0 [] _ _ (by decide) ⟨rfl,kC (by rw[OT (by omega) (by omega)];rfl),trivial⟩ rfl⟩
   refine sk ?_;exact⟨(),trivial,aO h0 [] _ _ (by decide) ⟨rfl,kC (by rw[AK (by omega)];rfl),trivial⟩ rfl⟩
  (iterate 3 refine cG ?_);refine o1 ?_;refine nl ?_;refine fD rfl ?_;refine sk ?_;exact⟨(),trivial,aO h0 [] _ _ (by decide) ⟨rfl,kC (by rw[AK (by omega)];rfl),trivial⟩ rfl⟩
 refine sq ?_;refine rl ?_;refine o1 ?_;refine o1 ?_
 refine ca (yC (m:=aI l) hl (sN l) (by omega) (by omega)) Qc ⟨a1 rfl,a1 rfl,rfl⟩ (.one (tv (.int .i64 (((wh (aI l)).length:Nat):Int)))) ?_
 refine o1 ?_;refine nl ?_;refine sq ?_;refine sq ?_;have h00:nth (aI l) 0=nth l (gC l):=nP (n:=0) (sN l)
 refine rl ?_;(iterate 3 refine o1 ?_);refine WL.split (t:=22) rfl (fun h3=>?_) (fun h3=>?_)
 ·(iterate 8 refine cG ?_);refine o1 ?_;refine nl ?_;refine fV rfl ?_;refine sq ?_;refine rl ?_;(iterate 3 refine o1 ?_);refine nl ?_;refine rt ?_
  have hB:iB (aI l)=true:=by unfold iB;rw[KW (by omega)];rfl
  exact en (.inl rfl) rfl (gP (.cons (aP _) (.cons (aP _) (.cons (aP _) .nil)))) (by decide) (fun _=>⟨trivial,trivial,trivial,trivial⟩) (by unfold tX tY xA;rw[hB];rfl)
 (iterate 3 refine o1 ?_);refine WL.split (t:=25) rfl (fun h4=>?_) (fun h4=>?_)
 ·refine o1 ?_;refine o1 ?_;refine o1 ?_ (hC:=(by rw[aF];omega))
  refine WL.cast (t:=28) (u':=.int .u8 (((nth l (gC l)):Nat):Int)) rfl (congrArg (fun n:Nat=>Value.int .u8 (n:Int)) (eI (i:=gC l) (by omega) (dT hl (by omega)))) ?_
  (iterate 3 refine o1 ?_);refine nl ?_;refine bN rfl (fun h5=>?_) (fun h5=>?_)
  ·refine sq ?_;refine rl ?_;(iterate 3 refine o1 ?_);refine nl ?_;refine rt ?_;have hB:iB (aI l)=true:=by unfold iB;rw[KW (by omega)];rfl
   exact en (.inl rfl) rfl (gP (.cons (aP _) (.cons (aP _) (.cons (aP _) .nil)))) (by decide) (fun _=>⟨trivial,trivial,trivial,trivial⟩) (by unfold tX tY xA;rw[hB];rfl)
  refine sk ?_;refine sq ?_;have hb1:b1 (aI l)=false:=KX (by omega)
  refine rl ?_;(iterate 3 refine o1 ?_);refine WL.cast (t:=34) (u':=.int .i64 (((gC l)+((wh (aI l)).length):Nat):Int)) rfl (aH (by omega)) ?_
  refine o1 ?_;refine nl ?_;refine sq ?_;refine rl ?_;refine o1 ?_;refine nl ?_;refine sq ?_;refine sq ?_;refine rl ?_;(iterate 3 refine o1 ?_)
  refine WL.cast (t:=37) (u':=.int .i64 ((l.length:Nat):Int)) rfl (congrArg (fun n:Nat=>Value.int .i64 (n:Int)) (aF _)) ?_
  refine o1 ?_;refine o1 ?_;refine WL.split (t:=39) rfl (fun h6=>?_) (fun h6=>?_)
  ·refine o1 ?_;refine o1 ?_;refine o1 ?_ (hC:=(by rw[aF];omega))
   refine WL.cast (t:=42) (u':=.int .u8 (((nth l (gC l+(wh (aI l)).length)):Nat):Int)) rfl (congrArg (fun n:Nat=>Value.int .u8 (n:Int)) (eI (i:=gC l+(wh (aI l)).length) (by omega) (dT hl (by omega)))) ?_
   refine o1 ?_;refine o1 ?_;refine nl ?_;refine bN rfl (fun h7=>?_) (fun h7=>?_)
   ·refine sq ?_;have hp:=AM (l:=l) (by omega) (by omega)
    have hpw:=AN hp
    have hpwl:=congrArg List.length hpw
    have hly:=AO hp
    refine rl ?_;(iterate 3 refine o1 ?_);refine WL.cast (t:=47) (u':=.int .i64 (((gC l)+((wh (aI l)).length)+1:Nat):Int)) rfl (aH (by omega)) ?_
    refine ca (yC (m:=iR (cE (aI l))) hl (Lq hp) (by omega) (by omega)) Qc ⟨a1 rfl,a1 rfl,rfl⟩ (.one (tv (.int .i64 (((wh (iR (cE (aI l)))).length:Nat):Int)))) ?_
    refine o1 ?_;refine nl ?_;refine sq ?_;refine sq ?_;refine rl ?_;refine o1 ?_;refine o1 ?_;refine nl ?_;refine bN rfl (fun h8=>?_) (fun h8=>?_)
    ·refine sq ?_;refine rl ?_;(iterate 3 refine o1 ?_);refine nl ?_;refine rt ?_
     have hB:iB (aI l)=true:=by unfold iB b2;rw[hp,←hpw,decide_eq_true (by omega),Bool.true_and,Bool.or_true]
     exact en (.inl rfl) rfl (gP (.cons (aP _) (.cons (aP _) (.cons (aP _) .nil)))) (by decide) (fun _=>⟨trivial,trivial,trivial,trivial⟩) (by unfold tX tY xA;rw[hB];rfl)
    refine sk ?_;refine rl ?_;refine o1 ?_;refine o1 ?_;refine WL.cast (t:=52) (u':=.int .i64 (((gC l)+((wh (aI l)).length)+1:Nat):Int)) rfl (aH (by omega)) ?_
    refine o1 ?_;refine o1 ?_;refine WL.cast (t:=54) (u':=.int .i64 (((gC l)+((wh (aI l)).length)+1+((wh (iR (cE (aI l)))).length):Nat):Int)) rfl (aH (by omega)) ?_
    refine o1 ?_;refine nl ?_;refine sq ?_;refine rl ?_;(iterate 5 refine o1 ?_)
    refine WL.cast (t:=59) (u':=.int .i64 ((l.length:Nat):Int)) rfl (congrArg (fun n:Nat=>Value.int .i64 (n:Int)) (aF _)) ?_
    (iterate 4 refine o1 ?_);refine nl ?_;refine rt ?_;have hB:iB (aI l)=false:=by unfold iB b2;rw[hb1,hp,←hpw,decide_eq_false (by omega)];rfl
    have hq9:=congrArg List.length hpw
    exact en (.inl rfl) rfl (gP (.cons (aP _) (.cons (aP _) (.cons (aP _) .nil)))) (by decide) (fun _=>⟨trivial,trivial,trivial,trivial⟩) (Mj hB rfl (congrArg List.length hpw) (decide_eq_decide.2 (by rw[Lr];omega)))
   refine sk ?_;refine sq ?_;refine rl ?_;(iterate 5 refine o1 ?_)
   refine WL.cast (t:=59) (u':=.int .i64 ((l.length:Nat):Int)) rfl (congrArg (fun n:Nat=>Value.int .i64 (n:Int)) (aF _)) ?_
   (iterate 4 refine o1 ?_);refine nl ?_;refine rt ?_;have hp:=Ex (l:=l) (by omega)
   have hpl:=nD hp
   have hln:=Ey hp
   have hB:iB (aI l)=false:=by unfold iB b2;rw[hb1,hp];rfl
   exact en (.inl rfl) rfl (gP (.cons (aP _) (.cons (aP _) (.cons (aP _) .nil)))) (by decide) (fun _=>⟨trivial,trivial,trivial,trivial⟩) (Mj hB rfl (by rw[hpl];rfl) (decide_eq_decide.2 (by rw[Lr];omega)))
  (iterate 4 refine cG ?_);refine o1 ?_;refine nl ?_;refine fD rfl ?_;refine sk ?_;refine sq ?_;refine rl ?_;(iterate 5 refine o1 ?_)
  refine WL.cast (t:=59) (u':=.int .i64 ((l.length:Nat):Int)) rfl (congrArg (fun n:Nat=>Value.int .i64 (n:Int)) (aF _)) ?_
  (iterate 4 refine o1 ?_);refine nl ?_;refine rt ?_;have hp:=Ex (l:=l) (by omega)
  have hpl:=nD hp
  have hln:=Ey hp
  have hB:iB (aI l)=false:=by unfold iB b2;rw[hb1,hp];rfl
  exact en (.inl rfl) rfl (gP (.cons (aP _) (.cons (aP _) (.cons (aP _) .nil)))) (by decide) (fun _=>⟨trivial,trivial,trivial,trivial⟩) (Mj hB rfl (by rw[hpl];rfl) (decide_eq_decide.2 (by rw[Lr];omega)))
 (iterate 4 refine cG ?_);refine o1 ?_;refine o1 ?_;refine nl ?_;refine fD rfl ?_;refine sk ?_;refine sq ?_;have hb1:b1 (aI l)=false:=KX (by omega)
 refine rl ?_;(iterate 3 refine o1 ?_);refine WL.cast (t:=34) (u':=.int .i64 (((gC l)+((wh (aI l)).length):Nat):Int)) rfl (aH (by omega)) ?_
 refine o1 ?_;refine nl ?_;refine sq ?_;refine rl ?_;refine o1 ?_;refine nl ?_;refine sq ?_;refine sq ?_;refine rl ?_;(iterate 3 refine o1 ?_)
 refine WL.cast (t:=37) (u':=.int .i64 ((l.length:Nat):Int)) rfl (congrArg (fun n:Nat=>Value.int .i64 (n:Int)) (aF _)) ?_
 refine o1 ?_;refine o1 ?_;refine WL.split (t:=39) rfl (fun h9=>?_) (fun h9=>?_)
 ·refine o1 ?_;refine o1 ?_;refine o1 ?_ (hC:=(by rw[aF];omega))
  refine WL.cast (t:=42) (u':=.int .u8 (((nth l (gC l+(wh (aI l)).length)):Nat):Int)) rfl (congrArg (fun n:Nat=>Value.int .u8 (n:Int)) (eI (i:=gC l+(wh (aI l)).length) (by omega) (dT hl (by omega)))) ?_
  refine o1 ?_;refine o1 ?_;refine nl ?_;refine bN rfl (fun h10=>?_) (fun h10=>?_)
  ·refine sq ?_;have hp:=AM (l:=l) (by omega) (by omega)
   have hpw:=AN hp
   have hpwl:=congrArg List.length hpw
   have hly:=AO hp
   refine rl ?_;(iterate 3 refine o1 ?_);refine WL.cast (t:=47) (u':=.int .i64 (((gC l)+((wh (aI l)).length)+1:Nat):Int)) rfl (aH (by omega)) ?_
   refine ca (yC (m:=iR (cE (aI l))) hl (Lq hp) (by omega) (by omega)) Qc ⟨a1 rfl,a1 rfl,rfl⟩ (.one (tv (.int .i64 (((wh (iR (cE (aI l)))).length:Nat):Int)))) ?_
   refine o1 ?_;refine nl ?_;refine sq ?_;refine sq ?_;refine rl ?_;refine o1 ?_;refine o1 ?_;refine nl ?_;refine bN rfl (fun h11=>?_) (fun h11=>?_)
   ·refine sq ?_;refine rl ?_;(iterate 3 refine o1 ?_);refine nl ?_;refine rt ?_
    have hB:iB (aI l)=true:=by unfold iB b2;rw[hp,←hpw,decide_eq_true (by omega),Bool.true_and,Bool.or_true]
    exact en (.inl rfl) rfl (gP (.cons (aP _) (.cons (aP _) (.cons (aP _) .nil)))) (by decide) (fun _=>⟨trivial,trivial,trivial,trivial⟩) (by unfold tX tY xA;rw[hB];rfl)
   refine sk ?_;refine rl ?_;refine o1 ?_;refine o1 ?_;refine WL.cast (t:=52) (u':=.int .i64 (((gC l)+((wh (aI l)).length)+1:Nat):Int)) rfl (aH (by omega)) ?_
   refine o1 ?_;refine o1 ?_;refine WL.cast (t:=54) (u':=.int .i64 (((gC l)+((wh (aI l)).length)+1+((wh (iR (cE (aI l)))).length):Nat):Int)) rfl (aH (by omega)) ?_
   refine o1 ?_;refine nl ?_;refine sq ?_;refine rl ?_;(iterate 5 refine o1 ?_)
   refine WL.cast (t:=59) (u':=.int .i64 ((l.length:Nat):Int)) rfl (congrArg (fun n:Nat=>Value.int .i64 (n:Int)) (aF _)) ?_
   (iterate 4 refine o1 ?_);refine nl ?_;refine rt ?_;have hB:iB (aI l)=false:=by unfold iB b2;rw[hb1,hp,←hpw,decide_eq_false (by omega)];rfl
   have hq9:=congrArg List.length hpw
   exact en (.inl rfl) rfl (gP (.cons (aP _) (.cons (aP _) (.cons (aP _) .nil)))) (by decide) (fun _=>⟨trivial,trivial,trivial,trivial⟩) (Mj hB rfl (congrArg List.length hpw) (decide_eq_decide.2 (by rw[Lr];omega)))
  refine sk ?_;refine sq ?_;refine rl ?_;(iterate 5 refine o1 ?_)
  refine WL.cast (t:=59) (u':=.int .i64 ((l.length:Nat):Int)) rfl (congrArg (fun n:Nat=>Value.int .i64 (n:Int)) (aF _)) ?_
  (iterate 4 refine o1 ?_);refine nl ?_;refine rt ?_;have hp:=Ex (l:=l) (by omega)
  have hpl:=nD hp
  have hln:=Ey hp
  have hB:iB (aI l)=false:=by unfold iB b2;rw[hb1,hp];rfl
  exact en (.inl rfl) rfl (gP (.cons (aP _) (.cons (aP _) (.cons (aP _) .nil)))) (by decide) (fun _=>⟨trivial,trivial,trivial,trivial⟩) (Mj hB rfl (by rw[hpl];rfl) (decide_eq_decide.2 (by rw[Lr];omega)))
 (iterate 4 refine cG ?_);refine o1 ?_;refine nl ?_;refine fD rfl ?_;refine sk ?_;refine sq ?_;refine rl ?_;(iterate 5 refine o1 ?_)
 refine WL.cast (t:=59) (u':=.int .i64 ((l.length:Nat):Int)) rfl (congrArg (fun n:Nat=>Value.int .i64 (n:Int)) (aF _)) ?_
 (iterate 4 refine o1 ?_);refine nl ?_;refine rt ?_;have hp:=Ex (l:=l) (by omega)
 have hpl:=nD hp
 have hln:=Ey hp
 have hB:iB (aI l)=false:=by unfold iB b2;rw[hb1,hp];rfl
 exact en (.inl rfl) rfl (gP (.cons (aP _) (.cons (aP _) (.cons (aP _) .nil)))) (by decide) (fun _=>⟨trivial,trivial,trivial,trivial⟩) (Mj hB rfl (by rw[hpl];rfl) (decide_eq_decide.2 (by rw[Lr];omega)))
theorem QE:((1:Int):Rat)=((10^0:Nat):Rat):=rfl
theorem QF (k:Nat):((10^k:Nat):Rat)*((10:Int):Rat)=((10^(k+1):Nat):Rat):=by
 rw[Nat.pow_succ,Rat.natCast_mul]
 rfl
theorem Qd {c:Nat}(hc:c≤1000000):aE false Tryz.prog 45 [] [.one (tv (.int .i64 ((c:Nat):Int)))] (aM (qF (.of ((10^c:Nat):Rat)))):=by
 refine bD Tryz.func45 rfl Tryz.ntmps45 rfl aA rfl fun N9 w9 c0 h0=>?_
 refine sq ?_;refine rl ?_;refine al 0 ?_;refine nl ?_;refine sq ?_;refine rl ?_;refine ca (iO (n:=1) (by omega) (by omega)) tB ⟨a1 rfl,rfl⟩ (qF (.of ((1:Int):Rat))) ?_
 refine al 1 ?_;refine st ?_;refine nl ?_;refine sq ?_;refine sq ?_;refine rl ?_;refine o1 ?_;refine nl ?_;refine bl ?_
 refine lp (γ:=Nat) (fun s=>cD [(0,.one (tv (.int .i64 ((c:Nat):Int)))),(2,.one (.pt 0 0)),(3,.one (.pt 1 0)),(4,.one (tv (.int .i64 ((s:Nat):Int))))]) (fun s=>[(⟨33,0,[tv (.bool false),tv (.slice none 0 0),tv (.bool false),tv (.slice none 0 0)]⟩:Ob),⟨33,0,((Fr4.of ((10^s:Nat):Rat)).tr false).map .t⟩].map some) (fun s=>s≤c) (fun s=>c-s) 0 (Nat.zero_le _) (aO h0 [0,1] _ _ (by decide) ⟨rfl,rfl,rfl,rfl,trivial⟩ ⟨oe rfl rfl,cM (congrArg (fun q=>some (⟨33,0,((Fr4.of q).tr false).map .t⟩:Ob)) QE),rfl⟩) ?_
 rintro k hk;refine sq ?_;refine sq ?_;refine rl ?_;(iterate 3 refine o1 ?_);refine nl ?_;refine bN rfl (fun h1=>?_) (fun h1=>?_)
 ·refine sk ?_;refine sq ?_;refine bl ?_;refine rd [0,1] (fun i=>[2,3].contains i) mixed ?_
  refine aU 0 ?_;refine aG 1 rfl (iO (n:=10) (by omega) (by omega)) tB ⟨a1 rfl,rfl⟩ (qF (.of ((10:Int):Rat))) ?_
  refine aG 2 rfl (Aa (Qn.of (p:=((10^k:Nat):Rat)) ((fC k).mono (M:=68719476736) (by omega))) (Qn.of (p:=((10:Int):Rat)) (bY (by omega) (by omega))) ((fC k).mono (M:=17179869184) (by omega)) ((bY (by omega) (by omega)).mono (M:=17179869184) (by omega))) Qe ⟨aB rfl,aB rfl,rfl⟩ (qF (.of (((10^k:Nat):Rat)*((10:Int):Rat)))) ?_
  refine dst 3 ?_;refine aS ?_;refine rl ?_;refine o1 ?_;refine o1 ?_;refine WL.cast (t:=10) (u':=.int .i64 ((k+1:Nat):Int)) rfl (aH (by omega)) ?_
  refine o1 ?_;refine nl ?_
  exact⟨k+1,by omega,by omega,aO h0 [0,1] _ _ (by decide) ⟨rfl,rfl,rfl,rfl,trivial⟩ ⟨oe rfl rfl,cM (congrArg (fun q=>some (⟨33,0,((Fr4.of q).tr false).map .t⟩:Ob)) (QF k)),rfl⟩⟩
 refine ex ?_;refine sq ?_;refine rl ?_;refine ld ?_;refine st ?_;refine nl ?_;refine rt ?_
 exact en (.inl rfl) rfl (aV (.agg (.cons (.id rfl) (.cons (.id rfl) (.cons (.id rfl) (.cons (.id rfl) .nil)))))) (by decide) (fun h=>by cases h) (by rw[show k=c by omega];rfl)
theorem UD:(0:Rat)=((sD (([]:List Nat)):Nat):Rat):=rfl
theorem FC {L n:Nat}(h:(dg 4294967296 n).length≤L+1):Sz (L+1) ((n:Nat):Rat):=by
 refine⟨?_,?_⟩
 ·rw[Rat.num_natCast,Int.natAbs_natCast]
  exact h
 rw[Rat.den_natCast]
 exact Nat.le_trans (show(dg 4294967296 1).length≤1 by decide) (by omega)
theorem KZ {u v d:Nat}(h:v=u*10+d):((u:Nat):Rat)*((10:Int):Rat)+(((d:Nat):Int):Rat)=((v:Nat):Rat):=by
 rw[h,Rat.natCast_add,Rat.natCast_mul]
 rfl
theorem LA {l:List Nat}(hl:Lim 256 l) (hn9:l.length≤1000000) (hf:gI (aI l)=true):aE false Tryz.prog 78 [] [.one (tv (.string (aC l)))] (aM (qF (.of (rB l)))):=by
 refine bD Tryz.func78 rfl Tryz.ntmps78 rfl aA rfl fun N9 w9 c0 h0=>?_
 have hb:=Sq hf
 have hpos:=Ls hf
 have hwp:=uN (aI l)
 have hal:=rD l
 refine sq ?_;refine rl ?_;refine al 0 ?_;refine nl ?_;refine sq ?_;refine rl ?_;refine ca (gS) oB rfl (qF (.of 0)) ?_;refine al 1 ?_;refine st ?_;refine nl ?_;refine sq ?_
 refine rl ?_;refine o1 ?_;refine nl ?_;refine sq ?_;refine sq ?_;refine rl ?_;refine o1 ?_;refine nl ?_;refine bl ?_
 refine lp (γ:=Nat) (fun s=>cD [(0,.one (tv (.string (aC l)))),(2,.one (.pt 0 0)),(3,.one (.pt 1 0)),(4,.one (tv (.int .i64 (sP (l.take s))))),(5,.one (tv (.int .i64 ((s:Nat):Int))))]) (fun s=>[(⟨33,0,[tv (.bool false),tv (.slice none 0 0),tv (.bool false),tv (.slice none 0 0)]⟩:Ob),⟨33,0,((Fr4.of ((sD (l.take s):Nat):Rat)).tr false).map .t⟩].map some) (fun s=>s≤l.length) (fun s=>l.length-s) 0 (Nat.zero_le _) (aO h0 [0,1] _ _ (by decide) ⟨rfl,rfl,rfl,kC rfl,rfl,trivial⟩ ⟨oe rfl rfl,cM (congrArg (fun q=>some (⟨33,0,((Fr4.of q).tr false).map .t⟩:Ob)) UD),rfl⟩) ?_
 rintro k hk
 have hsd:Sz (k+2) ((sD (l.take k):Nat):Rat):=FC (bQ (by omega) (Nat.lt_of_lt_of_le (OU hk hb) (Nat.le_trans (Nat.pow_le_pow_left (show 10≤4294967296 by omega) k) (Nat.pow_le_pow_right (by omega) (by omega)))))
 have hspl:=OV (l:=l) hk
 refine sq ?_;refine sq ?_;refine rl ?_;(iterate 3 refine o1 ?_)
 refine WL.cast (t:=9) (u':=.int .i64 ((l.length:Nat):Int)) rfl (congrArg (fun n:Nat=>Value.int .i64 (n:Int)) (aF _)) ?_
 refine o1 ?_;refine nl ?_;refine bN rfl (fun h1=>?_) (fun h1=>?_)
 ·refine sk ?_;refine sq ?_;refine bl ?_;refine bl ?_;refine sq ?_;refine rl ?_;refine o1 ?_;refine o1 ?_;refine o1 ?_ (hC:=(by rw[aF];omega))
  refine WL.cast (t:=16) (u':=.int .u8 (((nth l (k)):Nat):Int)) rfl (congrArg (fun n:Nat=>Value.int .u8 (n:Int)) (eI (i:=k) (by omega) (dT hl (by omega)))) ?_
  refine o1 ?_;refine o1 ?_;refine nl ?_;refine bN rfl (fun h2=>?_) (fun h2=>?_)
  ·refine rl ?_;refine o1 ?_;refine nl ?_;refine rl ?_;refine o1 ?_;refine o1 ?_;refine WL.cast (t:=12) (u':=.int .i64 ((k+1:Nat):Int)) rfl (aH (by omega)) ?_
   refine o1 ?_;refine nl ?_;have hsd1:=Gp (l:=l) (k:=k) (by omega)
   have hsp1:=Gq (l:=l) (k:=k) (by omega)
   rw[if_pos (by omega)]at hsd1 hsp1
   exact⟨k+1,by omega,by omega,aO h0 [0,1] _ _ (by decide) ⟨rfl,rfl,rfl,kC (by rw[hsp1]),rfl,trivial⟩ ⟨oe rfl rfl,cM (congrArg (fun q=>some (⟨33,0,((Fr4.of q).tr false).map .t⟩:Ob)) (congrArg (fun n:Nat=>(n:Rat)) hsd1.symm)),rfl⟩⟩
  refine sq ?_;refine rl ?_;refine o1 ?_;refine o1 ?_;refine o1 ?_ (hC:=(by rw[aF];omega))
  refine WL.cast (t:=21) (u':=.int .u8 (((nth l (k)):Nat):Int)) rfl (congrArg (fun n:Nat=>Value.int .u8 (n:Int)) (eI (i:=k) (by omega) (dT hl (by omega)))) ?_
  refine o1 ?_;refine o1 ?_;refine nl ?_;refine bN rfl (fun h3=>?_) (fun h3=>?_)
  ·refine sq ?_;have hck:=hb _ (AJ (l:=l) (k:=k) (by omega))
   refine rd [0,1] (fun i=>[10].contains i) mixed ?_
   refine aU 0 ?_;refine dv 3 ?_;refine dv 4 ?_;refine dv 5 ?_ (hC:=(by rw[aF];omega))
   refine WD.cast (t:=28) (u':=.int .u8 (((nth l (k)):Nat):Int)) rfl (congrArg (fun n:Nat=>Value.int .u8 (n:Int)) (eI (i:=k) (by omega) (dT hl (by omega)))) ?_
   refine dv 6 ?_;refine WD.cast (t:=29) (u':=.int .u8 (((nth l (k))-48:Nat):Int)) rfl (aH (by omega)) ?_
   refine dv 7 ?_;refine WD.cast (t:=30) (u':=.int .i64 (((nth l (k))-48:Nat):Int)) rfl (aH (by omega)) ?_
   refine aG 1 rfl (iO (n:=10) (by omega) (by omega)) tB ⟨a1 rfl,rfl⟩ (qF (.of ((10:Int):Rat))) ?_
   refine aG 2 rfl (Aa (Qn.of (p:=((sD (l.take k):Nat):Rat)) (hsd.mono (M:=68719476736) (by omega))) (Qn.of (p:=((10:Int):Rat)) ((bY (by omega) (by omega)).mono (M:=68719476736) (by omega))) (hsd.mono (M:=17179869184) (by omega)) ((bY (by omega) (by omega)).mono (M:=17179869184) (by omega))) Qe ⟨aB rfl,aB rfl,rfl⟩ (qF (.of (((sD (l.take k):Nat):Rat)*((10:Int):Rat)))) ?_
   refine aG 8 rfl (iO (n:=(((nth l (k))-48:Nat):Int)) (by omega) (by omega)) tB ⟨a1 rfl,rfl⟩ (qF (.of ((((nth l (k))-48:Nat):Int):Rat))) ?_
   refine aG 9 rfl (Tu (Qn.of (p:=(((sD (l.take k):Nat):Rat)*((10:Int):Rat))) ((jC hsd (bY (by omega) (by omega))).mono (M:=68719476736) (by omega))) (Qn.of (p:=((((nth l (k))-48:Nat):Int):Rat)) ((bY (by omega) (by omega)).mono (M:=68719476736) (by omega))) ((jC hsd (bY (by omega) (by omega))).mono (M:=17179869184) (by omega)) ((bY (by omega) (by omega)).mono (M:=17179869184) (by omega))) BR ⟨aB rfl,aB rfl,rfl⟩ (qF (.of ((((sD (l.take k):Nat):Rat)*((10:Int):Rat))+((((nth l (k))-48:Nat):Int):Rat)))) ?_
   refine dst 10 ?_;refine aS ?_;refine sq ?_;refine rl ?_;refine o1 ?_;refine o1 ?_;refine nl ?_;refine bN rfl (fun h4=>?_) (fun h4=>?_)
   ·refine rl ?_;refine o1 ?_;refine o1 ?_;refine WL.cast (t:=36) (u':=.int .i64 ((sP (l.take k)+1))) rfl (aH (by rfl)) ?_
    refine o1 ?_;refine nl ?_;refine rl ?_;refine o1 ?_;refine o1 ?_;refine WL.cast (t:=12) (u':=.int .i64 ((k+1:Nat):Int)) rfl (aH (by omega)) ?_
    refine o1 ?_;refine nl ?_;have hsd1:=Gp (l:=l) (k:=k) (by omega)
    have hsp1:=Gq (l:=l) (k:=k) (by omega)
    rw[if_neg (by omega),if_neg (by omega)]at hsd1 hsp1
    rw[if_pos (by omega)]at hsp1
    exact⟨k+1,by omega,by omega,aO h0 [0,1] _ _ (by decide) ⟨rfl,rfl,rfl,kC hsp1,rfl,trivial⟩ ⟨oe rfl rfl,cM (congrArg (fun q=>some (⟨33,0,((Fr4.of q).tr false).map .t⟩:Ob)) (KZ hsd1)),rfl⟩⟩
   refine sk ?_;refine rl ?_;refine o1 ?_;refine o1 ?_;refine WL.cast (t:=12) (u':=.int .i64 ((k+1:Nat):Int)) rfl (aH (by omega)) ?_
   refine o1 ?_;refine nl ?_;have hsd1:=Gp (l:=l) (k:=k) (by omega)
   have hsp1:=Gq (l:=l) (k:=k) (by omega)
   rw[if_neg (by omega),if_neg (by omega)]at hsd1 hsp1
   rw[if_neg (by omega)]at hsp1
   exact⟨k+1,by omega,by omega,aO h0 [0,1] _ _ (by decide) ⟨rfl,rfl,rfl,kC hsp1,rfl,trivial⟩ ⟨oe rfl rfl,cM (congrArg (fun q=>some (⟨33,0,((Fr4.of q).tr false).map .t⟩:Ob)) (KZ hsd1)),rfl⟩⟩
  refine sk ?_;refine rl ?_;refine o1 ?_;refine o1 ?_;refine WL.cast (t:=12) (u':=.int .i64 ((k+1:Nat):Int)) rfl (aH (by omega)) ?_
  refine o1 ?_;refine nl ?_;have hsd1:=Gp (l:=l) (k:=k) (by omega)
  have hsp1:=Gq (l:=l) (k:=k) (by omega)
  rw[if_neg (by omega),if_pos (by omega)]at hsd1 hsp1
  exact⟨k+1,by omega,by omega,aO h0 [0,1] _ _ (by decide) ⟨rfl,rfl,rfl,kC hsp1,rfl,trivial⟩ ⟨oe rfl rfl,cM (congrArg (fun q=>some (⟨33,0,((Fr4.of q).tr false).map .t⟩:Ob)) (congrArg (fun n:Nat=>(n:Rat)) hsd1.symm)),rfl⟩⟩
 refine ex ?_;refine sq ?_;have hkk:k=l.length:=by omega
 have htk:l.take k=l:=List.take_of_length_le (by omega)
 have hsl:Sz (k+2) ((sD l:Nat):Rat):=by rw[htk]at hsd;exact hsd
 have hmx:=ON hf
 refine WP.sub (aO h0 [0,1] [(0,.one (tv (.string (aC l)))),(2,.one (.pt 0 0)),(3,.one (.pt 1 0)),(4,.one (tv (.int .i64 (sP l))))] [⟨33,0,[tv (.bool false),tv (.slice none 0 0),tv (.bool false),tv (.slice none 0 0)]⟩,⟨33,0,((Fr4.of ((sD l:Nat):Rat)).tr false).map .t⟩] (by decide) ⟨rfl,rfl,rfl,kC (by rw[htk]),trivial⟩ ⟨oe rfl rfl,cM (congrArg (fun t:List Nat=>some (⟨33,0,((Fr4.of ((sD t:Nat):Rat)).tr false).map .t⟩:Ob)) htk),rfl⟩) ?_
 refine rd [0] (fun i=>[].contains i) mixed ?_
 refine dv 1 ?_;refine dv 2 ?_;refine WD.cast (t:=40) (u':=.int .i64 (((pl (aI l)).length:Nat):Int)) rfl (aH hmx) ?_;refine WO.two (i:=0) (j:=3) (by kernel_rfl) ?_ ?_
 ·refine eN 0 ?_;refine aG 3 rfl (Qd (c:=(pl (aI l)).length) (by omega)) Ye ⟨a1 rfl,rfl⟩ (qF (.of ((10^(pl (aI l)).length:Nat):Rat))) ?_
  refine aG 4 rfl (Ab (Qn.of (p:=((sD l:Nat):Rat)) (hsl.mono (M:=68719476736) (by omega))) (Qn.of (p:=((10^(pl (aI l)).length:Nat):Rat)) ((fC _).mono (M:=68719476736) (by omega))) (hsl.mono (M:=17179869184) (by omega)) ((fC _).mono (M:=17179869184) (by omega))) Ib ⟨aB rfl,aB rfl,rfl⟩ (.tup [qF (.of (((sD l:Nat):Rat)/((10^(pl (aI l)).length:Nat):Rat))),.one (tv (.int .i64 (if((10^(pl (aI l)).length:Nat):Rat)=0 then 20 else 0)))]) ?_
  refine df 5 ?_;refine df 6 ?_;refine df 7 ?_;refine aT 8 (by kernel_rfl) rfl rfl aA rfl rfl rfl rfl ⟨rfl,trivial⟩ ?_
  refine aS ?_;refine sq ?_;refine sq ?_;refine rl ?_;refine o1 ?_;refine o1 ?_ (hC:=(by rw[aF];show 0<l.length;omega))
  refine WL.cast (t:=46) (u':=.int .u8 (((nth l (0)):Nat):Int)) rfl (congrArg (fun n:Nat=>Value.int .u8 (n:Int)) (eI (i:=0) (by omega) (dT hl (by omega)))) ?_
  refine o1 ?_;refine nl ?_;refine bN rfl (fun h5=>?_) (fun h5=>?_)
  ·refine rl ?_;refine ld ?_
   refine ca (zZ (Qn.of (p:=(((sD l:Nat):Rat)/((10^(pl (aI l)).length:Nat):Rat))) ((zT hsl (fC _)).mono (M:=68719476736) (by omega)))) Qb ⟨aB rfl,rfl⟩ (qF (.of (-(((sD l:Nat):Rat)/((10^(pl (aI l)).length:Nat):Rat))))) ?_
   refine st ?_;refine nl ?_;refine sq ?_;refine rl ?_;refine ld ?_;refine st ?_;refine nl ?_;refine rt ?_;have hng:dH l=true:=by rw[←uQ hpos];exact decide_eq_true (by omega)
   have hq9:=zG hf
   rw[hng]at hq9;exact en (.inl rfl) rfl (aV (.agg (.cons (.id rfl) (.cons (.id rfl) (.cons (.id rfl) (.cons (.id rfl) .nil)))))) (by decide) (fun h=>by cases h) (by rw[←hq9];rfl)
  refine sk ?_;refine sq ?_;refine rl ?_;refine ld ?_;refine st ?_;refine nl ?_;refine rt ?_;have hng:dH l=false:=by rw[←uQ hpos];exact decide_eq_false (by omega)
  have hq9:=zG hf
  rw[hng]at hq9;exact en (.inl rfl) rfl (aV (.agg (.cons (.id rfl) (.cons (.id rfl) (.cons (.id rfl) (.cons (.id rfl) .nil)))))) (by decide) (fun h=>by cases h) (by rw[←hq9];rfl)
 refine cZ 3 rfl (Qd (c:=(pl (aI l)).length) (by omega)) Ye ⟨a1 rfl,rfl⟩ (qF (.of ((10^(pl (aI l)).length:Nat):Rat))) ?_
 refine WO.one (by kernel_rfl) (eN 0 ?_)
 refine aG 4 rfl (Ab (Qn.of (p:=((sD l:Nat):Rat)) (hsl.mono (M:=68719476736) (by omega))) (Qn.of (p:=((10^(pl (aI l)).length:Nat):Rat)) ((fC _).mono (M:=68719476736) (by omega))) (hsl.mono (M:=17179869184) (by omega)) ((fC _).mono (M:=17179869184) (by omega))) Ib ⟨aB rfl,aB rfl,rfl⟩ (.tup [qF (.of (((sD l:Nat):Rat)/((10^(pl (aI l)).length:Nat):Rat))),.one (tv (.int .i64 (if((10^(pl (aI l)).length:Nat):Rat)=0 then 20 else 0)))]) ?_
 refine df 5 ?_;refine df 6 ?_;refine df 7 ?_;refine aT 8 (by kernel_rfl) rfl rfl aA rfl rfl rfl rfl ⟨rfl,trivial⟩ ?_
 refine aS ?_;refine sq ?_;refine sq ?_;refine rl ?_;refine o1 ?_;refine o1 ?_ (hC:=(by rw[aF];show 0<l.length;omega))
 refine WL.cast (t:=46) (u':=.int .u8 (((nth l (0)):Nat):Int)) rfl (congrArg (fun n:Nat=>Value.int .u8 (n:Int)) (eI (i:=0) (by omega) (dT hl (by omega)))) ?_
 refine o1 ?_;refine nl ?_;refine bN rfl (fun h6=>?_) (fun h6=>?_)
 ·refine rl ?_;refine ld ?_
  refine ca (zZ (Qn.of (p:=(((sD l:Nat):Rat)/((10^(pl (aI l)).length:Nat):Rat))) ((zT hsl (fC _)).mono (M:=68719476736) (by omega)))) Qb ⟨aB rfl,rfl⟩ (qF (.of (-(((sD l:Nat):Rat)/((10^(pl (aI l)).length:Nat):Rat))))) ?_
  refine st ?_;refine nl ?_;refine sq ?_;refine rl ?_;refine ld ?_;refine st ?_;refine nl ?_;refine rt ?_;have hng:dH l=true:=by rw[←uQ hpos];exact decide_eq_true (by omega)
  have hq9:=zG hf
  rw[hng]at hq9;exact en (.inl rfl) rfl (aV (.agg (.cons (.id rfl) (.cons (.id rfl) (.cons (.id rfl) (.cons (.id rfl) .nil)))))) (by decide) (fun h=>by cases h) (by rw[←hq9];rfl)
 refine sk ?_;refine sq ?_;refine rl ?_;refine ld ?_;refine st ?_;refine nl ?_;refine rt ?_;have hng:dH l=false:=by rw[←uQ hpos];exact decide_eq_false (by omega)
 have hq9:=zG hf
 rw[hng]at hq9;exact en (.inl rfl) rfl (aV (.agg (.cons (.id rfl) (.cons (.id rfl) (.cons (.id rfl) (.cons (.id rfl) .nil)))))) (by decide) (fun h=>by cases h) (by rw[←hq9];rfl)
theorem UE {l:List Nat}(h:gI (aI l)=false):gW l=false:=by unfold gW;rw[h];rfl
theorem UF {l:List Nat}(h:(dH l&&uK (aI l))=true):gW l=false:=by unfold gW;rw[h,Bool.not_true,Bool.and_false]
theorem LB {l:List Nat}(h1:gI (aI l)=true) (h:(dH l&&uK (aI l))=false):gW l=true:=by unfold gW;rw[h1,h];rfl
theorem Ca {l:List Nat}{m:Nat}(hl:Lim 256 l) (hn9:l.length≤1000000):aE false Tryz.prog 33 [] [.one (tv (.string (aC l))),.one (tv (.int .i64 ((m:Nat):Int)))] (aM (.tup [qF (.of (cC l m)),.one (tv (.int .i64 (dJ l m)))])):=by
 refine bD Tryz.func33 rfl Tryz.ntmps33 rfl aA rfl fun N9 w9 c0 h0=>?_
 refine sq ?_;refine rl ?_;refine al 0 ?_;refine o1 ?_;refine nl ?_;refine sq ?_;refine rl ?_;refine o1 ?_
 refine ca (KY hl hn9) UG ⟨a1 rfl,rfl⟩ (.tup [.one (tv (.int .i64 ((tX l:Nat):Int))),.one (tv (.int .i64 ((tY l:Nat):Int))),.one (tv (.bool (xA l)))]) ?_;(iterate 7 refine o1 ?_)
 refine nl ?_;refine sq ?_;refine sq ?_;refine rl ?_;refine o1 ?_;refine WL.splitb (t:=17) rfl (fun h1=>?_) (fun h1=>?_)
 ·(iterate 6 refine o1 ?_);refine nl ?_;refine bN rfl (fun h2=>?_) (fun h2=>?_)
  ·refine sq ?_;refine rl ?_;refine ca (gS) oB rfl (qF (.of 0)) ?_;refine st ?_;refine o1 ?_;refine nl ?_;refine rt ?_
   have he:dJ l m=60:=zU (.inr (by have h8:gI (aI l)=true:=(by rw[←Br];exact h1);have h9:=(AP h8).2;omega))
   have hq:cC l m=0:=(if_neg (by rw[he];decide))
   exact en (.inl rfl) rfl (dE (.cons (.agg (.cons (.id rfl) (.cons (.id rfl) (.cons (.id rfl) (.cons (.id rfl) .nil))))) (.cons (aP _) .nil))) (by decide) (fun h=>by cases h) (by rw[he,hq];rfl)
  refine sk ?_;refine sq ?_;have hf:gI (aI l)=true:=by rw[←Br];exact h1
  have hpos:=Ls hf
  obtain⟨hfn,hfk⟩:=AP hf
  have hwp:=uN (aI l)
  have hal:=rD l
  refine rl ?_;refine o1 ?_;refine o1 ?_ (hC:=(by rw[aF];show 0<l.length;omega))
  refine WL.cast (t:=26) (u':=.int .u8 (((nth l (0)):Nat):Int)) rfl (congrArg (fun n:Nat=>Value.int .u8 (n:Int)) (eI (i:=0) (by omega) (dT hl (by omega)))) ?_
  refine o1 ?_;refine WL.cast (t:=27) (u':=.bool (dH l)) rfl (congrArg Value.bool ((uQ hpos)▸(decide_eq_decide.2 (by omega)))) ?_
  refine o1 ?_;refine nl ?_;refine sq ?_;refine sq ?_;refine rl ?_;refine o1 ?_;refine nl ?_;refine bl ?_
  refine lp (γ:=Nat) (fun s=>cD [(0,.one (tv (.string (aC l)))),(4,.one (.pt 0 0)),(6,.one (tv (.int .i64 (((tX l):Nat):Int)))),(7,.one (tv (.int .i64 (((tY l):Nat):Int)))),(9,.one (tv (.bool (dH l&&(l.take s).all iZ)))),(10,.one (tv (.int .i64 ((s:Nat):Int))))]) (fun s=>[(⟨33,0,[tv (.bool false),tv (.slice none 0 0),tv (.bool false),tv (.slice none 0 0)]⟩:Ob)].map some) (fun s=>s≤l.length) (fun s=>l.length-s) 0 (Nat.zero_le _) (aO h0 [0] _ _ (by decide) ⟨rfl,rfl,rfl,rfl,Tx (by rw[List.take_zero];exact Bool.and_true _),rfl,trivial⟩ ⟨oe rfl rfl,rfl⟩) ?_
  rintro k hk;refine sq ?_;refine sq ?_;refine rl ?_;(iterate 3 refine o1 ?_)
  refine WL.cast (t:=30) (u':=.int .i64 ((l.length:Nat):Int)) rfl (congrArg (fun n:Nat=>Value.int .i64 (n:Int)) (aF _)) ?_
  refine o1 ?_;refine nl ?_;refine bN rfl (fun h3=>?_) (fun h3=>?_)
  ·refine sk ?_;refine sq ?_;refine bl ?_;refine rl ?_;refine o1 ?_;refine o1 ?_;refine WL.splitb (t:=35) rfl (fun h4=>?_) (fun h4=>?_)
   ·refine o1 ?_;refine o1 ?_;refine o1 ?_ (hC:=(by rw[aF];omega))
    refine WL.cast (t:=38) (u':=.int .u8 (((nth l (k)):Nat):Int)) rfl (congrArg (fun n:Nat=>Value.int .u8 (n:Int)) (eI (i:=k) (by omega) (dT hl (by omega)))) ?_
    refine o1 ?_;refine o1 ?_;refine WL.split (t:=40) rfl (fun h5=>?_) (fun h5=>?_)
    ·(iterate 4 refine cG ?_);refine o1 ?_;refine o1 ?_;(iterate 4 refine cG ?_);(iterate 3 refine o1 ?_);refine nl ?_;refine rl ?_;refine o1 ?_;refine o1 ?_
     refine WL.cast (t:=33) (u':=.int .i64 ((k+1:Nat):Int)) rfl (aH (by omega)) ?_
     refine o1 ?_;refine nl ?_;have hns:(dH l&&(l.take (k+1)).all iZ)=((dH l&&(l.take k).all iZ)&&iZ (nth l k)):=by rw[Ez (by omega),Bool.and_assoc]
     exact⟨k+1,by omega,by omega,aO h0 [0] _ _ (by decide) ⟨rfl,rfl,rfl,rfl,Tx (by rw[hns,h4,Bool.true_and];unfold iZ;rw[Bool.eq_iff_iff];simp only[Bool.or_eq_true,decide_eq_true_eq,eq_self_iff_true,iff_true];omega),rfl,trivial⟩ ⟨oe rfl rfl,rfl⟩⟩
    refine o1 ?_;refine o1 ?_;refine o1 ?_ (hC:=(by rw[aF];omega))
    refine WL.cast (t:=43) (u':=.int .u8 (((nth l (k)):Nat):Int)) rfl (congrArg (fun n:Nat=>Value.int .u8 (n:Int)) (eI (i:=k) (by omega) (dT hl (by omega)))) ?_
    (iterate 3 refine o1 ?_);refine WL.split (t:=46) rfl (fun h6=>?_) (fun h6=>?_)
    ·(iterate 4 refine cG ?_);(iterate 3 refine o1 ?_);refine nl ?_;refine rl ?_;refine o1 ?_;refine o1 ?_
     refine WL.cast (t:=33) (u':=.int .i64 ((k+1:Nat):Int)) rfl (aH (by omega)) ?_
     refine o1 ?_;refine nl ?_;have hns:(dH l&&(l.take (k+1)).all iZ)=((dH l&&(l.take k).all iZ)&&iZ (nth l k)):=by rw[Ez (by omega),Bool.and_assoc]
     exact⟨k+1,by omega,by omega,aO h0 [0] _ _ (by decide) ⟨rfl,rfl,rfl,rfl,Tx (by rw[hns,h4,Bool.true_and];unfold iZ;rw[Bool.eq_iff_iff];simp only[Bool.or_eq_true,decide_eq_true_eq,eq_self_iff_true,iff_true];omega),rfl,trivial⟩ ⟨oe rfl rfl,rfl⟩⟩
    refine o1 ?_;refine o1 ?_;refine o1 ?_ (hC:=(by rw[aF];omega))
    refine WL.cast (t:=49) (u':=.int .u8 (((nth l (k)):Nat):Int)) rfl (congrArg (fun n:Nat=>Value.int .u8 (n:Int)) (eI (i:=k) (by omega) (dT hl (by omega)))) ?_
    (iterate 4 refine o1 ?_);refine nl ?_;refine rl ?_;refine o1 ?_;refine o1 ?_;refine WL.cast (t:=33) (u':=.int .i64 ((k+1:Nat):Int)) rfl (aH (by omega)) ?_
    refine o1 ?_;refine nl ?_;have hns:(dH l&&(l.take (k+1)).all iZ)=((dH l&&(l.take k).all iZ)&&iZ (nth l k)):=by rw[Ez (by omega),Bool.and_assoc]
    exact⟨k+1,by omega,by omega,aO h0 [0] _ _ (by decide) ⟨rfl,rfl,rfl,rfl,Tx (by rw[hns,h4,Bool.true_and];unfold iZ;rw[Bool.eq_iff_iff];simp only[Bool.or_eq_true,decide_eq_true_eq,eq_self_iff_true,iff_true];omega),rfl,trivial⟩ ⟨oe rfl rfl,rfl⟩⟩
   (iterate 16 refine cG ?_);refine o1 ?_;refine o1 ?_;refine nl ?_;refine rl ?_;refine o1 ?_;refine o1 ?_
   refine WL.cast (t:=33) (u':=.int .i64 ((k+1:Nat):Int)) rfl (aH (by omega)) ?_
   refine o1 ?_;refine nl ?_;have hns:(dH l&&(l.take (k+1)).all iZ)=((dH l&&(l.take k).all iZ)&&iZ (nth l k)):=by rw[Ez (by omega),Bool.and_assoc]
   exact⟨k+1,by omega,by omega,aO h0 [0] _ _ (by decide) ⟨rfl,rfl,rfl,rfl,Tx (by rw[hns,h4];rfl),rfl,trivial⟩ ⟨oe rfl rfl,rfl⟩⟩
  refine ex ?_;refine sq ?_;refine sq ?_;have htk:l.take k=l:=List.take_of_length_le (by omega)
  have hnu:(dH l&&(l.take k).all iZ)=(dH l&&uK (aI l)):=by rw[htk];exact II hf
  refine rl ?_;refine o1 ?_;refine nl ?_;refine iW rfl (fun h7=>?_) (fun h7=>?_)
  ·refine sq ?_;refine rl ?_;refine ca (gS) oB rfl (qF (.of 0)) ?_;refine st ?_;refine o1 ?_;refine nl ?_;refine rt ?_
   have he:dJ l m=60:=zU (.inl (UF (hnu.symm.trans h7)))
   have hq:cC l m=0:=(if_neg (by rw[he];decide))
   exact en (.inl rfl) rfl (dE (.cons (.agg (.cons (.id rfl) (.cons (.id rfl) (.cons (.id rfl) (.cons (.id rfl) .nil))))) (.cons (aP _) .nil))) (by decide) (fun h=>by cases h) (by rw[he,hq];rfl)
  refine sk ?_;refine sq ?_;refine sq ?_;refine rl ?_;(iterate 3 refine o1 ?_);refine WL.cast (t:=57) (u':=.int .i64 (((tX l)+(tY l):Nat):Int)) rfl (aH (by omega)) ?_
  refine o1 ?_;refine nl ?_;refine bN rfl (fun h8=>?_) (fun h8=>?_)
  ·refine sq ?_;refine rl ?_;refine ca (gS) oB rfl (qF (.of 0)) ?_;refine st ?_;refine o1 ?_;refine nl ?_;refine rt ?_;have hok:gW l=true:=LB hf (hnu.symm.trans h7)
   have he:dJ l m=3:=JY hok (by omega) (by omega)
   have hq:cC l m=0:=(if_neg (by rw[he];decide))
   exact en (.inl rfl) rfl (dE (.cons (.agg (.cons (.id rfl) (.cons (.id rfl) (.cons (.id rfl) (.cons (.id rfl) .nil))))) (.cons (aP _) .nil))) (by decide) (fun h=>by cases h) (by rw[he,hq];rfl)
  refine sk ?_;refine sq ?_;refine rl ?_;refine o1 ?_;refine ca (LA hl hn9 hf) UH ⟨a1 rfl,rfl⟩ (qF (.of (rB l))) ?_;refine st ?_;refine o1 ?_;refine nl ?_;refine rt ?_
  have hok:gW l=true:=LB hf (hnu.symm.trans h7)
  have he:dJ l m=0:=JZ hok (by omega) (by omega)
  have hq:cC l m=rB l:=if_pos he
  exact en (.inl rfl) rfl (dE (.cons (.agg (.cons (.id rfl) (.cons (.id rfl) (.cons (.id rfl) (.cons (.id rfl) .nil))))) (.cons (aP _) .nil))) (by decide) (fun h=>by cases h) (by rw[he,hq];rfl)
 refine o1 ?_;refine o1 ?_;(iterate 3 refine cG ?_);refine o1 ?_;refine nl ?_;refine fV rfl ?_;refine sq ?_;refine rl ?_;refine ca (gS) oB rfl (qF (.of 0)) ?_;refine st ?_
 refine o1 ?_;refine nl ?_;refine rt ?_;have he:dJ l m=60:=zU (.inl (UE (by rw[←Br];exact h1)))
 have hq:cC l m=0:=(if_neg (by rw[he];decide))
 exact en (.inl rfl) rfl (dE (.cons (.agg (.cons (.id rfl) (.cons (.id rfl) (.cons (.id rfl) (.cons (.id rfl) .nil))))) (.cons (aP _) .nil))) (by decide) (fun h=>by cases h) (by rw[he,hq];rfl)
theorem FD {l:List Nat}(hl:Lim 256 l) (hn9:l.length≤1000000):aE false Tryz.prog 11 [] [.one (tv (.string (aC l)))] (aM (.tup [qF (.of (cC l l.length)),.one (tv (.int .i64 (dJ l l.length)))])):=by
 refine bD Tryz.func11 rfl Tryz.ntmps11 rfl aA rfl fun N9 w9 c0 h0=>?_
 refine sq ?_;refine rl ?_;refine al 0 ?_;refine o1 ?_;refine nl ?_;refine sq ?_;refine rl ?_;(iterate 3 refine o1 ?_)
 refine WL.cast (t:=6) (u':=.int .i64 ((l.length:Nat):Int)) rfl (congrArg (fun n:Nat=>Value.int .i64 (n:Int)) (aF _)) ?_
 refine ca (Ca (l:=l) (m:=l.length) hl hn9) Yf ⟨a1 rfl,a1 rfl,rfl⟩ (.tup [qF (.of (cC l l.length)),.one (tv (.int .i64 (dJ l l.length)))]) ?_;refine o1 ?_;refine o1 ?_;refine st ?_
 refine o1 ?_;refine nl ?_;refine rt ?_
 exact en (.inl rfl) rfl (dE (.cons (.agg (.cons (.id rfl) (.cons (.id rfl) (.cons (.id rfl) (.cons (.id rfl) .nil))))) (.cons (aP _) .nil))) (by decide) (fun h=>by cases h) rfl
theorem Yg {l:List Nat}(hl:Lim 256 l) (hn9:l.length≤1000000):aE false Tryz.prog 12 [] [.one (tv (.string (aC l)))] (aM (.tup [qF (.of (cC l 2)),.one (tv (.int .i64 (dJ l 2)))])):=by
 refine bD Tryz.func12 rfl Tryz.ntmps12 rfl aA rfl fun N9 w9 c0 h0=>?_
 refine sq ?_;refine rl ?_;refine al 0 ?_;refine o1 ?_;refine nl ?_;refine sq ?_;refine rl ?_;refine o1 ?_
 refine ca (Ca (l:=l) (m:=2) hl hn9) Yf ⟨a1 rfl,a1 rfl,rfl⟩ (.tup [qF (.of (cC l 2)),.one (tv (.int .i64 (dJ l 2)))]) ?_;refine o1 ?_;refine o1 ?_;refine st ?_;refine o1 ?_
 refine nl ?_;refine rt ?_
 exact en (.inl rfl) rfl (dE (.cons (.agg (.cons (.id rfl) (.cons (.id rfl) (.cons (.id rfl) (.cons (.id rfl) .nil))))) (.cons (aP _) .nil))) (by decide) (fun h=>by cases h) rfl
theorem Qf {l:List Nat}{c:Nat}(h:0<l.length):iK c l=true↔nth l (l.length-1)=c:=by
 unfold iK
 rw[decide_eq_true_eq]
 have e:l.drop (l.length-1)=[nth l (l.length-1)]:=by
  rw[List.drop_eq_getElem_cons (by omega),show l.length-1+1=l.length by omega,List.drop_length,cF (by omega)]
 rw[e]
 simp
theorem Qg {l:List Nat}(h:0<l.length) (h2:iK 37 l=true) (h3:¬nth l 0=45):dH (cJ 37 l)=false:=by
 rw[←uT h2]
 refine decide_eq_false fun h4=>?_
 have h5:=congrArg List.length h4
 rw[List.length_take,List.length_take]at h5
 have h6:1<l.length:=by simp at h5;omega
 rw[List.take_take,Nat.min_eq_left (by omega)]at h4
 exact h3 ((sO h).1 h4)
theorem Ic {l:List Nat}{m:Nat}(h:dH l=false):¬cC l m<0:=by
 unfold cC
 split
 ·unfold rB
  rw[h,Rat.not_lt]
  exact Rat.divInt_nonneg (by show(0:Int)≤((_:Nat):Int);omega) (Int.natCast_nonneg _)
 exact Rat.not_lt.2 Rat.le_refl
theorem LC {l:List Nat}(h:0<l.length) (h2:nth l 0=45):dQ l=60:=by
 cases hen:iK 37 l with
 | false=>exact lR (.inl hen)
 | true=>
  have hn:dH (cJ 37 l)=true:=by
   have h9:=(Qf h).1 hen
   rw[←uT hen]
   have h6:1<l.length:=by
    rcases Nat.lt_or_ge 1 l.length with h1 | h1
    ·exact h1
    rw[show l.length-1=0 by omega]at h9
    omega
   refine decide_eq_true ?_
   rw[List.take_take,Nat.min_eq_left (by omega)]
   exact(sO h).2 h2
  by_cases he:dJ (cJ 37 l) 4=0
  ·refine lR (.inr (.inr (.inl ?_)))
   have hok:gW (cJ 37 l)=true:=by
    unfold dJ at he
    split at he
    ·rename_i h1;exact h1.1
    cases he
   unfold cC rB
   rw[if_pos he,hn]
   have hnz:bX (wh (aI (cJ 37 l))++pl (aI (cJ 37 l)))≠0:=fun h0=>by
    unfold gW uK at hok
    rw[hn,Ln (Pa _),h0]at hok
    simp at hok
   have hp:0<10^(pl (aI (cJ 37 l))).length:=Nat.pow_pos (by omega)
   have e:∀V k:Nat,V≠0→0<k→Rat.divInt (-(V:Int)) (k:Int)<0:=fun V k hV hk=>by
    rw[←iG]
    have h2:(0:Rat)<(k:Rat):=by exact_mod_cast hk
    have h3:=qN (-(V:Int)) (k:Int) (by omega)
    rw[iG]
    by_cases h4:Rat.divInt (-(V:Int)) (k:Int)<0
    ·exact h4
    exfalso
    have h4:=Rat.not_lt.1 h4
    have h5:=Rat.mul_nonneg h4 (Rat.le_of_lt h2)
    rw[Rat.intCast_natCast]at h3
    rw[h3]at h5
    have h6:(0:Int)≤-(V:Int):=by exact_mod_cast h5
    omega
   exact e _ _ hnz hp
  exact lR (.inr (.inl he))
theorem Mk {l:List Nat}(hl:Lim 256 l) (hn9:l.length≤1000000):aE false Tryz.prog 13 [] [.one (tv (.string (aC l)))] (aM (.tup [qF (.of (aZ l)),.one (tv (.int .i64 (dQ l)))])):=by
 refine bD Tryz.func13 rfl Tryz.ntmps13 rfl aA rfl fun N9 w9 c0 h0=>?_
 have hX:Sz 41 (cC (cJ 37 l) 4):=lS _ 4
 refine sq ?_;refine rl ?_;refine al 0 ?_;refine o1 ?_;refine nl ?_;refine sq ?_;refine sq ?_;refine rl ?_;refine o1 ?_;refine o1 ?_
 refine WL.cast (t:=9) (u':=.bool (decide (l=[]))) rfl (congrArg Value.bool (iD hl)) ?_;refine o1 ?_;refine WL.splitb (t:=10) rfl (fun h1=>?_) (fun h1=>?_)
 ·(iterate 3 refine cG ?_);refine o1 ?_;refine o1 ?_;(iterate 6 refine cG ?_);refine o1 ?_;refine nl ?_;refine fV rfl ?_;refine sq ?_;refine rl ?_
  refine ca (gS) oB rfl (qF (.of 0)) ?_;refine st ?_;refine o1 ?_;refine nl ?_;refine rt ?_;have he:dQ l=60:=lR (.inl (by rw[of_decide_eq_true h1];rfl))
  have hq:aZ l=0:=if_neg (by rw[he];decide)
  exact en (.inl rfl) rfl (dE (.cons (.agg (.cons (.id rfl) (.cons (.id rfl) (.cons (.id rfl) (.cons (.id rfl) .nil))))) (.cons (aP _) .nil))) (by decide) (fun h=>by cases h) (by rw[he,hq];rfl)
 refine o1 ?_;have hp9:=rE h1
 refine o1 ?_ (hC:=(by rw[aF];show 0<l.length;omega))
 refine WL.cast (t:=12) (u':=.int .u8 (((nth l (0)):Nat):Int)) rfl (congrArg (fun n:Nat=>Value.int .u8 (n:Int)) (eI (i:=0) (by omega) (dT hl (by omega)))) ?_
 (iterate 3 refine o1 ?_);refine WL.split (t:=15) rfl (fun h2=>?_) (fun h2=>?_)
 ·(iterate 6 refine cG ?_);refine o1 ?_;refine nl ?_;refine fV rfl ?_;refine sq ?_;refine rl ?_;refine ca (gS) oB rfl (qF (.of 0)) ?_;refine st ?_;refine o1 ?_;refine nl ?_
  refine rt ?_;have he:dQ l=60:=LC hp9 (by omega)
  have hq:aZ l=0:=if_neg (by rw[he];decide)
  exact en (.inl rfl) rfl (dE (.cons (.agg (.cons (.id rfl) (.cons (.id rfl) (.cons (.id rfl) (.cons (.id rfl) .nil))))) (.cons (aP _) .nil))) (by decide) (fun h=>by cases h) (by rw[he,hq];rfl)
 (iterate 3 refine o1 ?_);refine WL.cast (t:=18) (u':=.int .i64 ((l.length:Nat):Int)) rfl (congrArg (fun n:Nat=>Value.int .i64 (n:Int)) (aF _)) ?_
 refine o1 ?_;refine WL.cast (t:=19) (u':=.int .i64 ((l.length-1:Nat):Int)) rfl (aH (by omega)) ?_
 refine o1 ?_ (hC:=(by rw[aF];omega))
 refine WL.cast (t:=20) (u':=.int .u8 (((nth l (l.length-1)):Nat):Int)) rfl (congrArg (fun n:Nat=>Value.int .u8 (n:Int)) (eI (i:=l.length-1) (by omega) (dT hl (by omega)))) ?_
 refine o1 ?_;refine o1 ?_;refine nl ?_;refine bN rfl (fun h3=>?_) (fun h3=>?_)
 ·refine sq ?_;refine rl ?_;refine ca (gS) oB rfl (qF (.of 0)) ?_;refine st ?_;refine o1 ?_;refine nl ?_;refine rt ?_
  have he:dQ l=60:=lR (.inl (Bool.eq_false_iff.2 fun h9=>by have:=(Qf hp9).1 h9;omega))
  have hq:aZ l=0:=if_neg (by rw[he];decide)
  exact en (.inl rfl) rfl (dE (.cons (.agg (.cons (.id rfl) (.cons (.id rfl) (.cons (.id rfl) (.cons (.id rfl) .nil))))) (.cons (aP _) .nil))) (by decide) (fun h=>by cases h) (by rw[he,hq];rfl)
 refine sk ?_;refine sq ?_;have hen:iK 37 l=true:=(Qf hp9).2 (by omega)
 refine rl ?_;(iterate 3 refine o1 ?_);refine WL.cast (t:=27) (u':=.int .i64 ((l.length:Nat):Int)) rfl (congrArg (fun n:Nat=>Value.int .i64 (n:Int)) (aF _)) ?_
 refine o1 ?_;refine WL.cast (t:=28) (u':=.int .i64 ((l.length-1:Nat):Int)) rfl (aH (by omega)) ?_
 refine o1 ?_ (hC:=(by rw[aF];omega))
 refine WL.cast (t:=29) (u':=.string (aC (cJ 37 l))) rfl (congrArg Value.string ((iE _ 0 _).trans (congrArg aC (uT hen)))) ?_
 refine ca (Ca (l:=(cJ 37 l)) (m:=4) (Gt hl) (Nat.le_trans zJ hn9)) Yf ⟨a1 rfl,a1 rfl,rfl⟩ (.tup [qF (.of (cC (cJ 37 l) 4)),.one (tv (.int .i64 (dJ (cJ 37 l) 4)))]) ?_
 (iterate 3 refine o1 ?_);refine al 1 ?_;refine st ?_;refine o1 ?_;refine nl ?_;refine sq ?_;refine sq ?_;refine rd [0,1] (fun i=>[].contains i) mixed ?_
 refine dv 0 ?_;refine dv 1 ?_;refine dv 2 ?_;refine WD.split (t:=35) rfl rfl (fun h4=>?_) (fun h4=>?_)
 ·refine bR 3 ?_;refine bR 4 ?_;refine bR 5 ?_;refine bR 6 ?_;refine dv 7 ?_;refine aS ?_;refine fV rfl ?_;refine sq ?_;refine rl ?_;refine ca (gS) oB rfl (qF (.of 0)) ?_
  refine st ?_;refine o1 ?_;refine nl ?_;refine rt ?_;have he:dQ l=60:=lR (.inr (.inl (by omega)))
  have hq:aZ l=0:=if_neg (by rw[he];decide)
  exact en (.inl rfl) rfl (dE (.cons (.agg (.cons (.id rfl) (.cons (.id rfl) (.cons (.id rfl) (.cons (.id rfl) .nil))))) (.cons (aP _) .nil))) (by decide) (fun h=>by cases h) (by rw[he,hq];rfl)
 refine aU 3 ?_;refine aG 4 rfl (iO (n:=100) (by omega) (by omega)) tB ⟨a1 rfl,rfl⟩ (qF (.of ((100:Int):Rat))) ?_
 refine aG 5 rfl (Ia (Qn.of (p:=(cC (cJ 37 l) 4)) (hX.mono (M:=68719476736) (by omega))) (Qn.of (p:=((100:Int):Rat)) (bY (by omega) (by omega))) (hX.mono (M:=17179869184) (by omega)) ((bY (by omega) (by omega)).mono (M:=17179869184) (by omega))) Yh ⟨aB rfl,aB rfl,rfl⟩ (.one (tv (.int .i64 ((cC (cJ 37 l) 4)-((100:Int):Rat)).num.sign))) ?_
 refine df 6 ?_;refine df 7 ?_;refine aS ?_;refine bN rfl (fun h5=>?_) (fun h5=>?_)
 ·refine sq ?_;refine rl ?_;refine ca (gS) oB rfl (qF (.of 0)) ?_;refine st ?_;refine o1 ?_;refine nl ?_;refine rt ?_
  have he:dQ l=60:=lR (.inr (.inr (.inr (Lp h5))))
  have hq:aZ l=0:=if_neg (by rw[he];decide)
  exact en (.inl rfl) rfl (dE (.cons (.agg (.cons (.id rfl) (.cons (.id rfl) (.cons (.id rfl) (.cons (.id rfl) .nil))))) (.cons (aP _) .nil))) (by decide) (fun h=>by cases h) (by rw[he,hq];rfl)
 refine sk ?_;refine sq ?_;refine rd [0,1] (fun i=>[8].contains i) mixed ?_
 refine aU 0 ?_;refine WO.two (i:=1) (j:=6) (by kernel_rfl) ?_ ?_
 ·refine cZ 1 rfl (iO (n:=100) (by omega) (by omega)) tB ⟨a1 rfl,rfl⟩ (qF (.of ((100:Int):Rat))) ?_
  refine WO.two (i:=2) (j:=6) (by kernel_rfl) ?_ ?_
  ·refine cZ 2 rfl (Ab (Qn.of (p:=(cC (cJ 37 l) 4)) (hX.mono (M:=68719476736) (by omega))) (Qn.of (p:=((100:Int):Rat)) (bY (by omega) (by omega))) (hX.mono (M:=17179869184) (by omega)) ((bY (by omega) (by omega)).mono (M:=17179869184) (by omega))) Ib ⟨aB rfl,aB rfl,rfl⟩ (.tup [qF (.of ((cC (cJ 37 l) 4)/((100:Int):Rat))),.one (tv (.int .i64 (if((100:Int):Rat)=0 then 20 else 0)))]) ?_
   refine df 3 ?_;refine df 4 ?_;refine df 5 ?_;refine eP (key:=2) 6 (by kernel_rfl) rfl rfl aA rfl ⟨rfl,rfl,trivial⟩ ?_
   refine aT 7 (by kernel_rfl) rfl rfl aA rfl rfl rfl rfl ⟨rfl,rfl,trivial⟩ ?_
   refine cV 8 (by kernel_rfl) rfl rfl aA rfl (by trivial) ?_ (fun h=>by first | rfl | cases h)
   refine aS ?_;refine sq ?_;refine rl ?_;refine ld ?_;refine st ?_;refine o1 ?_;refine nl ?_;refine rt ?_
   have he:dQ l=0:=Ho hen (by omega) (Ic (Qg hp9 hen (by omega))) (fun h9=>h5 (Gm h9))
   have hq:aZ l=(cC (cJ 37 l) 4)/((100:Int):Rat):=if_pos he
   exact en (.inl rfl) rfl (dE (.cons (.agg (.cons (.id rfl) (.cons (.id rfl) (.cons (.id rfl) (.cons (.id rfl) .nil))))) (.cons (aP _) .nil))) (by decide) (fun h=>by cases h) (by rw[he,hq];rfl)
  refine bV (key:=2) 6 rfl rfl aA rfl ⟨rfl,rfl,trivial⟩ ?_
  refine aG 2 rfl (Ab (Qn.of (p:=(cC (cJ 37 l) 4)) (hX.mono (M:=68719476736) (by omega))) (Qn.of (p:=((100:Int):Rat)) (bY (by omega) (by omega))) (hX.mono (M:=17179869184) (by omega)) ((bY (by omega) (by omega)).mono (M:=17179869184) (by omega))) Ib ⟨aB rfl,aB rfl,rfl⟩ (.tup [qF (.of ((cC (cJ 37 l) 4)/((100:Int):Rat))),.one (tv (.int .i64 (if((100:Int):Rat)=0 then 20 else 0)))]) ?_
  refine df 3 ?_;refine df 4 ?_;refine df 5 ?_;refine aT 7 (by kernel_rfl) rfl rfl aA rfl rfl rfl rfl ⟨rfl,rfl,trivial⟩ ?_
  refine cV 8 (by kernel_rfl) rfl rfl aA rfl (by trivial) ?_ (fun h=>by first | rfl | cases h)
  refine aS ?_;refine sq ?_;refine rl ?_;refine ld ?_;refine st ?_;refine o1 ?_;refine nl ?_;refine rt ?_
  have he:dQ l=0:=Ho hen (by omega) (Ic (Qg hp9 hen (by omega))) (fun h9=>h5 (Gm h9))
  have hq:aZ l=(cC (cJ 37 l) 4)/((100:Int):Rat):=if_pos he
  exact en (.inl rfl) rfl (dE (.cons (.agg (.cons (.id rfl) (.cons (.id rfl) (.cons (.id rfl) (.cons (.id rfl) .nil))))) (.cons (aP _) .nil))) (by decide) (fun h=>by cases h) (by rw[he,hq];rfl)
 refine bV (key:=2) 6 rfl rfl aA rfl ⟨rfl,rfl,trivial⟩ ?_;refine aG 1 rfl (iO (n:=100) (by omega) (by omega)) tB ⟨a1 rfl,rfl⟩ (qF (.of ((100:Int):Rat))) ?_
 refine aG 2 rfl (Ab (Qn.of (p:=(cC (cJ 37 l) 4)) (hX.mono (M:=68719476736) (by omega))) (Qn.of (p:=((100:Int):Rat)) (bY (by omega) (by omega))) (hX.mono (M:=17179869184) (by omega)) ((bY (by omega) (by omega)).mono (M:=17179869184) (by omega))) Ib ⟨aB rfl,aB rfl,rfl⟩ (.tup [qF (.of ((cC (cJ 37 l) 4)/((100:Int):Rat))),.one (tv (.int .i64 (if((100:Int):Rat)=0 then 20 else 0)))]) ?_
 refine df 3 ?_;refine df 4 ?_;refine df 5 ?_;refine aT 7 (by kernel_rfl) rfl rfl aA rfl rfl rfl rfl ⟨rfl,rfl,trivial⟩ ?_
 refine cV 8 (by kernel_rfl) rfl rfl aA rfl (by trivial) ?_ (fun h=>by first | rfl | cases h)
 refine aS ?_;refine sq ?_;refine rl ?_;refine ld ?_;refine st ?_;refine o1 ?_;refine nl ?_;refine rt ?_
 have he:dQ l=0:=Ho hen (by omega) (Ic (Qg hp9 hen (by omega))) (fun h9=>h5 (Gm h9))
 have hq:aZ l=(cC (cJ 37 l) 4)/((100:Int):Rat):=if_pos he
 exact en (.inl rfl) rfl (dE (.cons (.agg (.cons (.id rfl) (.cons (.id rfl) (.cons (.id rfl) (.cons (.id rfl) .nil))))) (.cons (aP _) .nil))) (by decide) (fun h=>by cases h) (by rw[he,hq];rfl)
theorem lU {q:Rat}(h:0≤q):0≤hal q:=by
 have h1:0≤q.num.fdiv (q.den:Int):=by rw[mM];have:=DY h;rwa[show fl 0=0 from IN 0]at this
 unfold hal
 split <;> omega
theorem LD {q:Rat}{m:Int}(h:q≤(m:Rat)):hal q≤m:=by
 have h2:=(Gl q).1
 rcases Int.lt_or_le m (hal q)with h3 | h3
 ·exfalso
  have h4:((m+1:Int):Rat)≤((hal q:Int):Rat):=by exact_mod_cast h3
  have h5:((m+1:Int):Rat)=(m:Rat)+1:=by push_cast;rfl
  rw[h5]at h4
  have h6:2*((m:Rat)+1)-2*q≤1:=by grind
  grind
 exact h3
def aJ (q:Rat):Rat:=if q<0 then-q else q
theorem qQ (q:Rat):0≤aJ q:=by
 unfold aJ
 split
 ·grind
 exact Rat.not_lt.1 ‹_›
theorem Id {q:Rat}(h:decide (q<0)=true):-q=aJ q:=(if_pos (of_decide_eq_true h)).symm
theorem Ty {q:Rat}(h:decide (q<0)=false):q=aJ q:=(if_neg (of_decide_eq_false h)).symm
theorem FE {L:Nat}{q:Rat}(h:Sz L q):Sz L (aJ q):=by
 unfold aJ
 split
 ·exact pD h
 exact h
theorem FF {q:Rat}{d:Nat}(h:decide (q<0)=true) (h2:hal (aJ q)≠0):45::wr (hal (aJ q)).natAbs d=pt (hal q) d:=by
 have h1:=lU (qQ q)
 rw[←Id h,Lo]at*
 unfold pt
 rw[if_pos (by omega),Int.natAbs_neg]
theorem Ml {q:Rat}{d:Nat}(h:decide (q<0)=false∨hal (aJ q)=0):wr (hal (aJ q)).natAbs d=pt (hal q) d:=by
 have h1:=lU (qQ q)
 unfold pt
 cases hq:decide (q<0)with
 | false=>
  rw[←Ty hq]at*
  rw[if_neg (by omega)]
 | true=>
  rw[hq]at h
  have h2:=h.elim (fun h=>by cases h) id
  rw[←Id hq,Lo]at h2⊢
  rw[if_neg (by omega),Int.natAbs_neg]
def tZ (l:List Nat):List Nat:=dl9c (iS p0 l)
where dl9c (l:List Nat):List Nat:=if l.drop (l.length-1)=[46]then l.take (l.length-1)else l
theorem BS (l:List Nat):iS p0 (l++[48])=iS p0 l:=by
 unfold iS
 rw[List.reverse_append]
 rfl
theorem BT {l:List Nat}{c:Nat}(h:c≠48):iS p0 (l++[c])=l++[c]:=by
 unfold iS
 rw[List.reverse_append]
 show(List.dropWhile p0 (c::l.reverse)).reverse=_
 rw[List.dropWhile_cons,if_neg (by unfold p0;simp[h])]
 simp
theorem UI {l:List Nat}{c:Nat}(h:c≠46):tZ.dl9c (l++[c])=l++[c]:=by
 unfold tZ.dl9c
 rw[if_neg]
 rw[List.length_append,List.length_singleton,Nat.add_sub_cancel,List.drop_left]
 intro h2
 injection h2 with h2
 exact h h2
theorem UJ (l:List Nat):tZ.dl9c (l++[46])=l:=by
 unfold tZ.dl9c
 rw[List.length_append,List.length_singleton,Nat.add_sub_cancel,if_pos List.drop_left,List.take_left]
theorem Cb (n d:Nat):wr n (d+1)=(if d=0 then tx (n/10)++[46]else wr (n/10) d)++[48+n%10]:=by
 unfold wr
 rw[if_neg (by omega),pd,Nat.pow_succ,Nat.mul_comm,←Nat.div_div_eq_div_mul]
 by_cases h:d=0
 ·subst h
  rw[if_pos rfl,Nat.pow_zero,Nat.div_one]
  simp[pd]
 rw[if_neg h,if_neg h]
 simp
theorem Qh {n d:Nat}(h:n%10≠0):tZ (wr n (d+1))=wr n (d+1):=by
 unfold tZ
 rw[Cb,BT (by omega),UI (by omega)]
theorem tC {n d:Nat}(h:n%10=0):tZ (wr n (d+2))=tZ (wr (n/10) (d+1)):=by
 unfold tZ
 rw[Cb,h,BS,if_neg (by omega)]
theorem UK {n:Nat}(h:n%10=0):tZ (wr n 1)=wr (n/10) 0:=by
 unfold tZ
 rw[Cb,h,BS,if_pos rfl,BT (by omega),UJ]
 unfold wr
 rw[if_pos rfl,Nat.pow_zero,Nat.div_one,List.append_nil]
theorem UL {N j:Nat}(hj:j≤4) (h:N%10^(4-j)=0) (h2:∀i,i<j→N%10^(4-i)≠0):tZ (wr N 4)=wr (N/10^(4-j)) j:=by
 match j,hj with
 | 4,_=>
  have:=h2 3 (by omega)
  rw[Qh (d:=3) (by simpa using this)]
  simp
 | 3,_=>
  have:=h2 2 (by omega)
  have e:10^(4-3)=10:=rfl
  rw[e]at h⊢
  simp only[show 10^(4-2)=100 from rfl]at this
  rw[tC (d:=2) h,Qh (d:=2) (by omega)]
 | 2,_=>
  have:=h2 1 (by omega)
  have e:10^(4-2)=100:=rfl
  rw[e]at h⊢
  simp only[show 10^(4-1)=1000 from rfl]at this
  rw[tC (d:=2) (by omega),tC (d:=1) (by omega),Qh (d:=1) (by omega),Nat.div_div_eq_div_mul]
 | 1,_=>
  have:=h2 0 (by omega)
  have e:10^(4-1)=1000:=rfl
  rw[e]at h⊢
  simp only[show 10^(4-0)=10000 from rfl]at this
  rw[tC (d:=2) (by omega),tC (d:=1) (by omega),tC (d:=0) (by omega),Qh (d:=0) (by omega),Nat.div_div_eq_div_mul,Nat.div_div_eq_div_mul]
 | 0,_=>
  have e:10^(4-0)=10000:=rfl
  rw[e]at h⊢
  rw[tC (d:=2) (by omega),tC (d:=1) (by omega),tC (d:=0) (by omega),UK (by omega),Nat.div_div_eq_div_mul,Nat.div_div_eq_div_mul,Nat.div_div_eq_div_mul]
theorem Mm (j:Nat):((10^j:Nat):Rat)≠0:=by
 have:0<10^j:=Nat.pow_pos (by omega)
 exact_mod_cast (by omega:(10^j:Nat)≠0)
theorem LE (j:Nat):(0:Rat)<((10^j:Nat):Rat):=by
 have:0<10^j:=Nat.pow_pos (by omega)
 exact_mod_cast this
theorem Mn (z:Int) (j:Nat):Rat.divInt z ((10^j:Nat):Int)*((10^j:Nat):Rat)=(z:Rat):=by
 have h:=qN z ((10^j:Nat):Int) (by have:0<10^j:=Nat.pow_pos (by omega);omega)
 rwa[Rat.intCast_natCast]at h
theorem FG {m:Nat}(h:m<1000):(tx m).length≤3:=by
 by_cases h1:m<10
 ·rw[Gj h1];simp
 rw[Bn (by omega),List.length_append]
 by_cases h2:m/10<10
 ·rw[Gj h2];simp
 rw[Bn (by omega),List.length_append,Gj (by omega)];simp
theorem LF (l:List Nat):iK 37 (l++[37])=true∧cJ 37 (l++[37])=l:=by
 have h:(l++[37]).drop ((l++[37]).length-1)=[37]:=by rw[List.length_append,List.length_singleton,Nat.add_sub_cancel,List.drop_left]
 refine⟨decide_eq_true h,?_⟩
 unfold cJ
 rw[if_pos h,List.length_append,List.length_singleton,Nat.add_sub_cancel,List.take_left]
section
variable {p:Rat}{j:Nat}
theorem Ie (h0:0≤p) (h1:p≤((1:Int):Rat)) (hj:j≤4):dQ (aX (p*((100:Int):Rat)) j++[37])=0∧aZ (aX (p*((100:Int):Rat)) j++[37])=Rat.divInt (hal (p*((100:Int):Rat)*((10^j:Nat):Rat))) ((10^j:Nat):Int)/((100:Int):Rat):=by
 obtain⟨e1,e2⟩:=LF (aX (p*((100:Int):Rat)) j)
 have hT:=LE j
 have hu:((100:Int):Rat)=100:=rfl
 have h1':p≤1:=h1
 have hz0:0≤hal (p*((100:Int):Rat)*((10^j:Nat):Rat)):=lU (by rw[hu];exact Rat.mul_nonneg (by grind) (Rat.le_of_lt hT))
 have hzm:hal (p*((100:Int):Rat)*((10^j:Nat):Rat))≤100*((10^j:Nat):Int):=LD (by
  rw[Rat.intCast_mul,Rat.intCast_natCast,hu]
  exact Rat.mul_le_mul_of_nonneg_right (by show p*100≤100;grind) (Rat.le_of_lt hT))
 have hE:dJ (aX (p*((100:Int):Rat)) j) 4=0:=by
  unfold aX
  rw[Xc,if_pos hj,if_neg]
  generalize hal (p*((100:Int):Rat)*((10^j:Nat):Rat))=z at hz0 hzm
  have h2:z.natAbs/10^j≤100:=by
   have h3:z.natAbs≤100*10^j:=by omega
   calc z.natAbs/10^j≤100*10^j/10^j:=Nat.div_le_div_right h3
    _=100:=Nat.mul_div_cancel _ (Nat.pow_pos (by omega))
  have:=FG (m:=z.natAbs/10^j) (by omega)
  omega
 have hQ:cC (aX (p*((100:Int):Rat)) j) 4=Rat.divInt (hal (p*((100:Int):Rat)*((10^j:Nat):Rat))) ((10^j:Nat):Int):=by
  unfold cC
  rw[if_pos hE]
  exact IQ _ _
 have hv:=Mn (hal (p*((100:Int):Rat)*((10^j:Nat):Rat))) j
 have hS:dQ (aX (p*((100:Int):Rat)) j++[37])=0:=by
  refine if_pos ⟨e1,by rw[e2];exact hE,?_,?_⟩
  ·rw[e2,hQ]
   refine Rat.le_of_mul_le_mul_right ?_ hT
   rw[hv,Rat.zero_mul]
   exact_mod_cast hz0
  rw[e2,hQ]
  refine Rat.le_of_mul_le_mul_right ?_ hT
  rw[hv]
  have h9:((hal (p*((100:Int):Rat)*((10^j:Nat):Rat)):Int):Rat)≤((100*((10^j:Nat):Int):Int):Rat):=by exact_mod_cast hzm
  rwa[Rat.intCast_mul,Rat.intCast_natCast]at h9
 refine⟨hS,?_⟩
 unfold aZ
 rw[if_pos hS,e2,hQ]
theorem Mo (h0:0≤p) (h1:p≤((1:Int):Rat)) (hj:j≤4) (h:p=aZ (aX (p*((100:Int):Rat)) j++[37])):p*((100:Int):Rat)*((10^j:Nat):Rat)=((hal (p*((100:Int):Rat)*((10^j:Nat):Rat)):Int):Rat):=by
 rw[(Ie h0 h1 hj).2]at h
 have hv:=Mn (hal (p*((100:Int):Rat)*((10^j:Nat):Rat))) j
 generalize hal (p*((100:Int):Rat)*((10^j:Nat):Rat))=z at h hv
 have h2:p*((100:Int):Rat)=Rat.divInt z ((10^j:Nat):Int):=by
  rw[h,Rat.div_mul_cancel]
  decide
 rw[h2]
 exact hv
theorem Tz (h0:0≤p) (h1:p≤((1:Int):Rat)) (hj:j≤4){z:Int}(h:p*((100:Int):Rat)*((10^j:Nat):Rat)=(z:Rat)):p=aZ (aX (p*((100:Int):Rat)) j++[37]):=by
 rw[(Ie h0 h1 hj).2,h,Bo]
 have hv:=Mn z j
 rw[←h]at hv
 have h2:=wF (Mm j) hv
 rw[h2]
 have h3:p*((100:Int):Rat)/((100:Int):Rat)=p:=by
  rw[Rat.div_def,Rat.mul_assoc,Rat.mul_inv_cancel _ (by decide),Rat.mul_one]
 exact h3.symm
theorem SM (hj:j≤4):p*((1000000:Int):Rat)=p*((100:Int):Rat)*((10^j:Nat):Rat)*((10^(4-j):Nat):Rat):=by
 rw[Rat.mul_assoc,Rat.mul_assoc]
 congr 1
 have:(1000000:Int)=100*((10^j:Nat)*(10^(4-j):Nat):Nat):=by
  rw[←Nat.pow_add,show j+(4-j)=4 by omega]
  rfl
 rw[this,Rat.intCast_mul,Rat.intCast_natCast,Rat.natCast_mul]
theorem Mp (h0:0≤p) (h:(p*((1000000:Int):Rat)).den=1):∃N:Nat,p*((1000000:Int):Rat)=(((N:Nat):Int):Rat):=by
 have h1:=DX h
 have h2:0≤(p*((1000000:Int):Rat)).num:=by
  rw[Rat.num_nonneg]
  exact Rat.mul_nonneg h0 (by decide)
 refine⟨(p*((1000000:Int):Rat)).num.toNat,?_⟩
 rw[Int.toNat_of_nonneg h2]
 exact h1.symm
theorem rQ {N:Nat}(hN:p*((1000000:Int):Rat)=(((N:Nat):Int):Rat)) (h0:0≤p) (h1:p≤((1:Int):Rat)) (hj:j≤4):(p=aZ (aX (p*((100:Int):Rat)) j++[37])↔N%10^(4-j)=0)∧(N%10^(4-j)=0→aX (p*((100:Int):Rat)) j=wr (N/10^(4-j)) j):=by
 have hm:=SM (p:=p) hj
 rw[hN]at hm
 have back:N%10^(4-j)=0→p*((100:Int):Rat)*((10^j:Nat):Rat)=(((N/10^(4-j):Nat):Int):Rat):=fun h=>by
  refine wF (Mm (4-j)) ?_
  rw[←hm,Rat.intCast_natCast,Rat.intCast_natCast,←Rat.natCast_mul]
  congr 1
  have:=Nat.div_add_mod' N (10^(4-j))
  omega
 refine⟨⟨fun h=>?_,fun h=>Tz h0 h1 hj (back h)⟩,fun h=>?_⟩
 ·have h2:=Mo h0 h1 hj h
  rw[h2]at hm
  have hz0:0≤hal (p*((100:Int):Rat)*((10^j:Nat):Rat)):=lU (Rat.mul_nonneg (Rat.mul_nonneg h0 (by decide)) (Rat.le_of_lt (LE j)))
  generalize hal (p*((100:Int):Rat)*((10^j:Nat):Rat))=z at hm hz0
  obtain⟨q,rfl⟩:∃q:Nat,z=(q:Int):=⟨z.toNat,by omega⟩
  rw[Rat.intCast_natCast,Rat.intCast_natCast,←Rat.natCast_mul]at hm
  have h3:N=q*10^(4-j):=by exact_mod_cast hm
  rw[h3,Nat.mul_mod_left]
 unfold aX
 rw[back h,Bo]
 unfold pt
 rw[if_neg (Int.not_lt.2 (Int.natCast_nonneg _)),Int.natAbs_natCast]
theorem Ua (h0:0≤p) (h1:p≤((1:Int):Rat)) (hj:j≤4) (h:p=aZ (aX (p*((100:Int):Rat)) j++[37])) (hn:∀i,i<j→p≠aZ (aX (p*((100:Int):Rat)) i++[37])):aX (p*((100:Int):Rat)) j++[37]=fO p:=by
 have hd:(p*((1000000:Int):Rat)).den=1:=by
  rw[SM hj,Mo h0 h1 hj h]
  generalize hal (p*((100:Int):Rat)*((10^j:Nat):Rat))=z
  have e:(z:Rat)*((10^(4-j):Nat):Rat)=((z*((10^(4-j):Nat):Int):Int):Rat):=by rw[Rat.intCast_mul,Rat.intCast_natCast]
  rw[e]
  exact Rat.den_intCast _
 obtain⟨N,hN⟩:=Mp h0 hd
 have h2:=((rQ hN h0 h1 hj).1.1 h)
 have h3:∀i,i<j→N%10^(4-i)≠0:=fun i hi h9=>hn i hi ((rQ hN h0 h1 (by omega)).1.2 h9)
 have h4:=UL hj h2 h3
 have h5:=(rQ (j:=4) hN h0 h1 (Nat.le_refl _)).2 (by simp[Nat.mod_one])
 rw[BQ (Rat.not_lt.2 h0) (Rat.not_lt.2 h1) hd]
 rw[show aD 4=4 from rfl,h5,(rQ hN h0 h1 hj).2 h2,←h4]
 simp only[Nat.sub_self,Nat.pow_zero,Nat.div_one]
 rfl
theorem FH (h0:0≤p) (h1:p≤((1:Int):Rat)) (hn:∀i,i<5→p≠aZ (aX (p*((100:Int):Rat)) i++[37])):[]=fO p:=by
 refine(rN (.inr (.inr fun hd=>?_))).symm
 obtain⟨N,hN⟩:=Mp h0 hd
 exact hn 4 (by omega) ((rQ (j:=4) hN h0 h1 (Nat.le_refl _)).1.2 (by simp[Nat.mod_one]))
end
end Go.Proofs.YtcaakamelngceaaGreatDoor
