/- Part 12 of a proof: A5 to Uh. -/
import Derived.Test.YtcaakamelngceaaGreatDoorM8
import Derived.Test.YtcaakamelngceaaGreatDoorM9
import Derived.Test.YtcaakamelngceaaGreatDoorM11
import Derived.Test.YtcaakamelngceaaGreatDoorM5
import Derived.Test.YtcaakamelngceaaGreatDoorM10
import Derived.Test.YtcaakamelngceaaGreatDoorM7
set_option maxRecDepth 100000
set_option linter.unusedVariables false
set_option linter.unusedSimpArgs false
namespace Go.Proofs.YtcaakamelngceaaGreatDoor
open Go Go.RowKit
theorem BU {a b:Zi}{k k':Int}(ha:Zn a k) (hb:Zn b k'):aE true Tryz.prog 134 [] [gF a,gF b] (aN (.one (tv (.bool (decide (k=k')))))):=by
 refine bF Tryz.func134 rfl Tryz.ntmps134 rfl aA rfl fun N w c0 h0=>?_
 refine sq ?_;refine rl ?_;refine bx 0 ?_;refine bx 1 ?_;refine o1 ?_;refine nl ?_;refine sq ?_;refine rl ?_;refine ld ?_;refine ld ?_
 refine ca (Fn ha hb) Vk ⟨aB rfl,aB rfl,rfl⟩ (.one (tv (.int .i64 ((k)-(k')).sign))) ?_;refine o1 ?_;refine o1 ?_;refine nl ?_;refine rt ?_
 exact en (.inl rfl) rfl (aV (aO _)) (by decide) (fun _=>trivial) (congrArg (fun z=>FV.one (tv (.bool z))) (Vl _ _))
theorem Vm {a:Fr4}{p:Rat}(ha:Qn a p):aE true Tryz.prog 82 [] [qF a] (aN (.one (tv (.bool (cW a.s a.x a.t a.y))))):=by
 refine bF Tryz.func82 rfl Tryz.ntmps82 rfl aA rfl fun N w c0 h0=>?_
 have hzl:=(Er ha).len
 have hzd:=(rG ha).len
 refine sq ?_;refine rl ?_;refine bx 0 ?_;refine o1 ?_;refine nl ?_;refine sq ?_;refine rl ?_;refine o1 ?_;refine ld ?_
 refine ca (wQ (Er ha)) Nl ⟨aB rfl,rfl⟩ (.one (tv (.bool (cK a.s a.x)))) ?_;refine o1 ?_;refine WL.splitb (t:=6) rfl (fun h1=>?_) (fun h1=>?_)
 ·refine o1 ?_;refine ld ?_;refine ca (wQ (rG ha)) Nl ⟨aB rfl,rfl⟩ (.one (tv (.bool (cK a.t a.y)))) ?_;refine o1 ?_;refine o1 ?_
  refine WL.splitb (t:=11) rfl (fun h2=>?_) (fun h2=>?_)
  ·refine o1 ?_;refine ld ?_;refine ca (jE (rG ha)) rL ⟨aB rfl,rfl⟩ (.one (tv (.int .i64 ((cY a.t a.y)).sign))) ?_;(iterate 3 refine o1 ?_)
   refine WL.split (t:=17) rfl (fun h3=>?_) (fun h3=>?_)
   ·refine o1 ?_;refine ld ?_;refine o1 ?_;refine ld ?_;have s3:0<cY a.t a.y:=Int.sign_pos_iff.1 h3
    have hn4:=Aa (k:=(cY a.s a.x)) (k':=(cY a.t a.y)) (by omega)
    refine ca (Fo (Er ha) (rG ha)) Nm ⟨aB rfl,aB rfl,rfl⟩ (kF (((Int.gcd (cY a.s a.x) (cY a.t a.y):Nat):Int))) ?_;have hn5:=mM (n:=(1:Int)) (by omega) (by omega)
    refine ca (jF (n:=(1:Int)) (by omega) (by omega)) lP ⟨a1 rfl,rfl⟩ (kF ((1:Int))) ?_
    refine ca (BU (Zn.of (k:=((Int.gcd (cY a.s a.x) (cY a.t a.y):Nat):Int)) (by omega)) (Zn.of (k:=(1:Int)) (by omega))) MR ⟨aB rfl,aB rfl,rfl⟩ (.one (tv (.bool (decide ((((Int.gcd (cY a.s a.x) (cY a.t a.y):Nat):Int))=((1:Int))))))) ?_
    refine o1 ?_;refine o1 ?_;refine nl ?_;refine rt ?_
    exact en (.inl rfl) rfl (aV (aO _)) (by decide) (fun _=>trivial) (congrArg (fun z=>FV.one (tv (.bool z))) (by simp[cW,h1,h2,s3,Jz]))
   (iterate 7 refine cH ?_);refine o1 ?_;refine o1 ?_;refine nl ?_;refine rt ?_;have s3:¬(0<cY a.t a.y):=fun h=>h3 (Int.sign_pos_iff.2 h)
   exact en (.inl rfl) rfl (aV (aO _)) (by decide) (fun _=>trivial) (congrArg (fun z=>FV.one (tv (.bool z))) (by simp[cW,h1,h2,s3,Jz]))
  (iterate 4 refine cH ?_);refine o1 ?_;refine o1 ?_;(iterate 7 refine cH ?_);refine o1 ?_;refine o1 ?_;refine nl ?_;refine rt ?_
  exact en (.inl rfl) rfl (aV (aO _)) (by decide) (fun _=>trivial) (congrArg (fun z=>FV.one (tv (.bool z))) (by simp[cW,h1,h2]))
 (iterate 3 refine cH ?_);refine o1 ?_;refine o1 ?_;(iterate 4 refine cH ?_);refine o1 ?_;refine o1 ?_;(iterate 7 refine cH ?_);refine o1 ?_;refine o1 ?_;refine nl ?_;refine rt ?_
 exact en (.inl rfl) rfl (aV (aO _)) (by decide) (fun _=>trivial) (congrArg (fun z=>FV.one (tv (.bool z))) (by simp[cW,h1]))
theorem gK:aE false Tryz.prog 34 [] [] (aN (qF (.of 0))):=by
 refine bF Tryz.func34 rfl Tryz.ntmps34 rfl aA rfl fun N w c0 h0=>?_
 refine sq ?_;refine rl ?_;refine al 0 ?_;refine nl ?_;refine sq ?_;refine rl ?_;have hn1:=mM (n:=(0:Int)) (by omega) (by omega)
 refine ca (jF (n:=(0:Int)) (by omega) (by omega)) lP ⟨a1 rfl,rfl⟩ (kF ((0:Int))) ?_
 have hn2:=mM (n:=(1:Int)) (by omega) (by omega)
 refine ca (jF (n:=(1:Int)) (by omega) (by omega)) lP ⟨a1 rfl,rfl⟩ (kF ((1:Int))) ?_
 refine o1 ?_;refine st ?_;refine nl ?_;refine rt ?_
 exact en (.inl rfl) rfl (aV (.agg (.cons (.id rfl) (.cons (.id rfl) (.cons (.id rfl) (.cons (.id rfl) .nil)))))) (by decide) (fun h=>by cases h) (vA (q:=0) rfl rfl)
theorem iC {n:Int}(h1:-9223372036854775808≤n) (h2:n≤9223372036854775807):aE false Tryz.prog 36 [] [.one (tv (.int .i64 n))] (aN (qF (.of (n:Rat)))):=by
 refine bF Tryz.func36 rfl Tryz.ntmps36 rfl aA rfl fun N w c0 h0=>?_
 refine sq ?_;refine rl ?_;refine al 0 ?_;refine nl ?_;refine sq ?_;refine rl ?_;refine o1 ?_;have hn1:=mM (n:=n) (by omega) (by omega)
 refine ca (jF (n:=n) (by omega) (by omega)) lP ⟨a1 rfl,rfl⟩ (kF (n)) ?_
 have hn2:=mM (n:=(1:Int)) (by omega) (by omega)
 refine ca (jF (n:=(1:Int)) (by omega) (by omega)) lP ⟨a1 rfl,rfl⟩ (kF ((1:Int))) ?_
 refine o1 ?_;refine st ?_;refine nl ?_;refine rt ?_
 exact en (.inl rfl) rfl (aV (.agg (.cons (.id rfl) (.cons (.id rfl) (.cons (.id rfl) (.cons (.id rfl) .nil)))))) (by decide) (fun h=>by cases h) (vA (q:=(n:Rat)) (Rat.num_intCast n) (by rw[Rat.den_intCast];rfl))
theorem gS {a:Fr4}{p:Rat}(ha:Qn a p):aE false Tryz.prog 44 [] [qF a] (aN (qF (.of p))):=by
 refine bF Tryz.func44 rfl Tryz.ntmps44 rfl aA rfl fun N w c0 h0=>?_
 refine sq ?_;refine rl ?_;refine bx 0 ?_;refine al 1 ?_;refine nl ?_;refine sq ?_;refine sq ?_;refine rl ?_;refine ld ?_
 refine ca (Vm ha) QY ⟨aB rfl,rfl⟩ (.one (tv (.bool (cW a.s a.x a.t a.y)))) ?_;refine WL.splitb (t:=4) rfl (fun h1=>?_) (fun h1=>?_)
 ·refine o1 ?_;refine nl ?_;refine fW rfl ?_;refine sk ?_;refine sq ?_;refine rl ?_;refine ld ?_;refine st ?_;refine nl ?_;refine rt ?_
  exact en (.inl rfl) rfl (aV (.agg (.cons (.id rfl) (.cons (.id rfl) (.cons (.id rfl) (.cons (.id rfl) .nil)))))) (by decide) (fun h=>by cases h) (by rw[ha.right h1];rfl)
 refine o1 ?_;refine nl ?_;refine fX rfl ?_;refine sq ?_;refine rl ?_;refine ca (gK) mZ rfl (qF (.of 0)) ?_;refine st ?_;refine nl ?_;refine rt ?_
 exact en (.inl rfl) rfl (aV (.agg (.cons (.id rfl) (.cons (.id rfl) (.cons (.id rfl) (.cons (.id rfl) .nil)))))) (by decide) (fun h=>by cases h) (by rw[ha.wrong h1];rfl)
theorem dP {a b:Zi}{k k':Int}(ha:Zn a k) (hb:Zn b k') (h0:k'≠0):aE false Tryz.prog 48 [] [gF a,gF b] (aN (.tup [kF (k.fdiv k'),kF (k.fmod k'),.one (tv (.int .i64 0))])):=by
 have h:=Rc ha hb
 rwa[if_neg h0,if_neg h0,if_neg h0]at h
theorem iS {a b:Zi}{k k':Int}(ha:Zn a k) (hb:Zn b k'):aE false Tryz.prog 80 [] [gF a,gF b] (aN (.tup [qF (.of (Rat.divInt k k')),.one (tv (.int .i64 (if k'=0 then 20 else 0)))])):=by
 refine bF Tryz.func80 rfl Tryz.ntmps80 rfl aA rfl fun N w c0 h0=>?_
 have hkl:=ha.len
 have hkl':=hb.len
 refine sq ?_;refine rl ?_;refine bx 0 ?_;refine bx 1 ?_;refine al 2 ?_;refine o1 ?_;refine nl ?_;refine sq ?_;refine sq ?_;refine rl ?_;refine ld ?_
 refine ca (jE hb) rL ⟨aB rfl,rfl⟩ (.one (tv (.int .i64 (k').sign))) ?_;refine o1 ?_;refine nl ?_;refine bR rfl (fun h1=>?_) (fun h1=>?_)
 ·refine sq ?_;refine rl ?_;refine ca (gK) mZ rfl (qF (.of 0)) ?_;refine st ?_;refine o1 ?_;refine nl ?_;refine rt ?_;have hk0:k'=0:=Int.sign_eq_zero_iff_zero.1 h1
  have hd0:Rat.divInt k k'=0:=by rw[hk0];simp
  exact en (.inl rfl) rfl (dB (.cons (.agg (.cons (.id rfl) (.cons (.id rfl) (.cons (.id rfl) (.cons (.id rfl) .nil))))) (.cons (aO _) .nil))) (by decide) (fun h=>by cases h) (by rw[if_pos hk0,hd0];rfl)
 refine sk ?_;refine sq ?_;refine sq ?_;have hk0:k'≠0:=fun h9=>h1 (by rw[h9];rfl)
 refine rl ?_;refine ld ?_;refine ca (jE hb) rL ⟨aB rfl,rfl⟩ (.one (tv (.int .i64 (k').sign))) ?_;refine o1 ?_;refine nl ?_;refine bR rfl (fun h2=>?_) (fun h2=>?_)
 ·refine sq ?_;refine rl ?_;refine ld ?_;have hn3:=jY (k)
  refine ca (yF ha) No ⟨aB rfl,rfl⟩ (kF (-k)) ?_;refine st ?_;refine nl ?_;refine rl ?_;refine ld ?_;have hn4:=jY (k')
  refine ca (yF hb) No ⟨aB rfl,rfl⟩ (kF (-k')) ?_;refine st ?_;refine nl ?_;refine sq ?_;have hkn:k'<0:=Int.sign_neg_iff.1 h2
  refine rl ?_;refine ld ?_;refine ld ?_;have hn5:=Aa (k:=-k) (k':=-k') (by omega)
  refine ca (Fo (Zn.of (k:=-k) (by omega)) (Zn.of (k:=-k') (by omega))) Nm ⟨aB rfl,aB rfl,rfl⟩ (kF (((Int.gcd (-k) (-k'):Nat):Int))) ?_
  refine al 3 ?_;refine st ?_;refine nl ?_;refine sq ?_;refine rl ?_;refine ld ?_;refine ld ?_
  refine ca (dP (Zn.of (k:=-k) (by omega)) (Zn.of (k:=((Int.gcd (-k) (-k'):Nat):Int)) (by omega)) (yG (by omega))) jN ⟨aB rfl,aB rfl,rfl⟩ (.tup [kF ((-k).fdiv ((Int.gcd (-k) (-k'):Nat):Int)),kF ((-k).fmod ((Int.gcd (-k) (-k'):Nat):Int)),.one (tv (.int .i64 0))]) ?_
  (iterate 4 refine o1 ?_);refine al 4 ?_;refine al 5 ?_;refine st ?_;refine st ?_;refine o1 ?_;refine nl ?_;refine sq ?_;refine rl ?_;refine ld ?_;refine ld ?_
  refine ca (dP (Zn.of (k:=-k') (by omega)) (Zn.of (k:=((Int.gcd (-k) (-k'):Nat):Int)) (by omega)) (yG (by omega))) jN ⟨aB rfl,aB rfl,rfl⟩ (.tup [kF ((-k').fdiv ((Int.gcd (-k) (-k'):Nat):Int)),kF ((-k').fmod ((Int.gcd (-k) (-k'):Nat):Int)),.one (tv (.int .i64 0))]) ?_
  (iterate 4 refine o1 ?_);refine al 6 ?_;refine al 7 ?_;refine st ?_;refine st ?_;refine o1 ?_;refine nl ?_;refine sq ?_;refine rl ?_;refine ld ?_;refine ld ?_;refine o1 ?_
  refine st ?_;refine o1 ?_;refine nl ?_;refine rt ?_;obtain⟨hp9,hn9⟩:=Fp (a:=k) hk0
  obtain⟨e1,e2⟩:=hn9 hkn
  exact en (.inl rfl) rfl (dB (.cons (.agg (.cons (.id rfl) (.cons (.id rfl) (.cons (.id rfl) (.cons (.id rfl) .nil))))) (.cons (aO _) .nil))) (by decide) (fun h=>by cases h) (by rw[if_neg hk0];exact congrArg (fun f=>FV.tup [f,.one (tv (.int .i64 0))]) (vA e1 e2))
 refine sk ?_;refine sq ?_;have hkp:0<k':=by have h9:=mt Int.sign_neg_iff.2 h2;omega
 refine rl ?_;refine ld ?_;refine ld ?_;have hn6:=Aa (k:=k) (k':=k') (by omega)
 refine ca (Fo ha hb) Nm ⟨aB rfl,aB rfl,rfl⟩ (kF (((Int.gcd k k':Nat):Int))) ?_;refine al 3 ?_;refine st ?_;refine nl ?_;refine sq ?_;refine rl ?_;refine ld ?_;refine ld ?_
 refine ca (dP ha (Zn.of (k:=((Int.gcd k k':Nat):Int)) (by omega)) (yG (by omega))) jN ⟨aB rfl,aB rfl,rfl⟩ (.tup [kF ((k).fdiv ((Int.gcd k k':Nat):Int)),kF ((k).fmod ((Int.gcd k k':Nat):Int)),.one (tv (.int .i64 0))]) ?_
 (iterate 4 refine o1 ?_);refine al 4 ?_;refine al 5 ?_;refine st ?_;refine st ?_;refine o1 ?_;refine nl ?_;refine sq ?_;refine rl ?_;refine ld ?_;refine ld ?_
 refine ca (dP hb (Zn.of (k:=((Int.gcd k k':Nat):Int)) (by omega)) (yG (by omega))) jN ⟨aB rfl,aB rfl,rfl⟩ (.tup [kF ((k').fdiv ((Int.gcd k k':Nat):Int)),kF ((k').fmod ((Int.gcd k k':Nat):Int)),.one (tv (.int .i64 0))]) ?_
 (iterate 4 refine o1 ?_);refine al 6 ?_;refine al 7 ?_;refine st ?_;refine st ?_;refine o1 ?_;refine nl ?_;refine sq ?_;refine rl ?_;refine ld ?_;refine ld ?_;refine o1 ?_
 refine st ?_;refine o1 ?_;refine nl ?_;refine rt ?_;obtain⟨hp9,hn9⟩:=Fp (a:=k) hk0
 obtain⟨e1,e2⟩:=hp9 hkp
 exact en (.inl rfl) rfl (dB (.cons (.agg (.cons (.id rfl) (.cons (.id rfl) (.cons (.id rfl) (.cons (.id rfl) .nil))))) (.cons (aO _) .nil))) (by decide) (fun h=>by cases h) (by rw[if_neg hk0];exact congrArg (fun f=>FV.tup [f,.one (tv (.int .i64 0))]) (vA e1 e2))
theorem yH {a:Fr4}{p:Rat}(ha:Qn a p):aE false Tryz.prog 47 [] [qF a] (aN (qF (.of (-p)))):=by
 refine bF Tryz.func47 rfl Tryz.ntmps47 rfl aA rfl fun N w c0 h0=>?_
 refine sq ?_;refine rl ?_;refine bx 0 ?_;refine al 1 ?_;refine nl ?_;refine sq ?_;refine rl ?_;refine ld ?_;refine ca (gS ha) pJ ⟨aB rfl,rfl⟩ (qF (.of p)) ?_;refine st ?_
 refine nl ?_;refine sq ?_;refine rd [0,1] (fun i=>[6].contains i) mixed ?_
 refine dv 0 ?_;refine aW 1 ?_;refine dv 3 ?_;refine aW 4 ?_;refine aJ 2 rfl (yF (dW ha.sz)) No ⟨aB rfl,rfl⟩ (kF (-p.num)) ?_;refine df 5 ?_;refine dst 6 ?_;refine aU ?_
 refine rt ?_
 exact en (.inl rfl) rfl (aV (.agg (.cons (.id rfl) (.cons (.id rfl) (.cons (.id rfl) (.cons (.id rfl) .nil)))))) (by decide) (fun h=>by cases h) (by unfold qF Fr4.of;rw[Rat.neg_num,Rat.neg_den];rfl)
theorem Re {a b:Fr4}{p q:Rat}(ha:Qn a p) (hb:Qn b q) (hs:Sz 17179869184 p) (hs':Sz 17179869184 q):aE false Tryz.prog 130 [] [qF a,qF b] (aN (qF (.of (p+q)))):=by
 refine bF Tryz.func130 rfl Tryz.ntmps130 rfl aA rfl fun N w c0 h0=>?_
 have hs1:=hs.1
 have hs2:(dg 4294967296 ((p.den:Int)).natAbs).length≤17179869184:=hs.2
 have hs3:=hs'.1
 have hs4:(dg 4294967296 ((q.den:Int)).natAbs).length≤17179869184:=hs'.2
 refine sq ?_;refine rl ?_;refine bx 0 ?_;refine bx 1 ?_;refine al 2 ?_;refine nl ?_;refine sq ?_;refine rl ?_;refine ld ?_;refine ca (gS ha) pJ ⟨aB rfl,rfl⟩ (qF (.of p)) ?_
 refine st ?_;refine nl ?_;refine sq ?_;refine rl ?_;refine ld ?_;refine ca (gS hb) pJ ⟨aB rfl,rfl⟩ (qF (.of q)) ?_;refine st ?_;refine nl ?_
 refine md (γ:=Unit) (fun _=>cE [(4,.one (.pt 0 0)),(5,.one (.pt 1 0))]) (fun _=>([⟨33,0,[tv (.bool false),tv (.slice none 0 0),tv (.bool false),tv (.slice none 0 0)]⟩,⟨33,0,((Fr4.of (Rat.divInt (p.num*(q.den:Int)+q.num*(p.den:Int)) ((p.den:Int)*(q.den:Int)))).tr false).map .t⟩]:List Ob).map some) (fun _=>True) ?_ fun _ _=>?_
 ·refine rd [0,1,2] (fun i=>[22].contains i) mixed ?_
  refine dv 0 ?_;refine aW 1 ?_;refine dv 2 ?_;refine aW 3 ?_;refine dv 5 ?_;refine aW 6 ?_;refine dv 7 ?_;refine aW 8 ?_;refine dv 11 ?_;refine aW 12 ?_;refine dv 13 ?_
  refine aW 14 ?_;refine WO.two (i:=4) (j:=20) (by kernel_rfl) ?_ ?_
  ·have hn1:=cI (p.num) ((q.den:Int))
   refine cU 4 rfl (fG (dW hs) (cJ hs')) iT ⟨aB rfl,aB rfl,rfl⟩ (kF (p.num*(q.den:Int))) ?_;refine WO.two (i:=9) (j:=20) (by kernel_rfl) ?_ ?_
   ·have hn2:=cI (q.num) ((p.den:Int))
    refine cU 9 rfl (fG (dW hs') (cJ hs)) iT ⟨aB rfl,aB rfl,rfl⟩ (kF (q.num*(p.den:Int))) ?_;refine WO.two (i:=10) (j:=20) (by kernel_rfl) ?_ ?_
    ·have hn3:=eW (p.num*(q.den:Int)) (q.num*(p.den:Int))
     refine cU 10 rfl (kU (Zn.of (k:=p.num*(q.den:Int)) (by omega)) (Zn.of (k:=q.num*(p.den:Int)) (by omega))) rM ⟨aB rfl,aB rfl,rfl⟩ (kF (p.num*(q.den:Int)+q.num*(p.den:Int))) ?_
     refine WO.two (i:=15) (j:=20) (by kernel_rfl) ?_ ?_
     ·have hn4:=cI ((p.den:Int)) ((q.den:Int))
      refine cU 15 rfl (fG (cJ hs) (cJ hs')) iT ⟨aB rfl,aB rfl,rfl⟩ (kF ((p.den:Int)*(q.den:Int))) ?_;refine WO.two (i:=16) (j:=20) (by kernel_rfl) ?_ ?_
      ·refine cU 16 rfl (iS (Zn.of (k:=p.num*(q.den:Int)+q.num*(p.den:Int)) (by omega)) (Zn.of (k:=(p.den:Int)*(q.den:Int)) (by omega))) oF ⟨aB rfl,aB rfl,rfl⟩ (.tup [qF (.of (Rat.divInt (p.num*(q.den:Int)+q.num*(p.den:Int)) ((p.den:Int)*(q.den:Int)))),.one (tv (.int .i64 (if((p.den:Int)*(q.den:Int))=0 then 20 else 0)))]) ?_
       refine df 17 ?_;refine df 18 ?_;refine df 19 ?_;refine eH (key:=3) 20 (by kernel_rfl) rfl rfl aA rfl ⟨rfl,rfl,rfl,trivial⟩ ?_
       refine aS 21 (by kernel_rfl) rfl rfl aA rfl rfl rfl rfl ⟨rfl,rfl,rfl,trivial⟩ ?_
       refine cZ 22 (by kernel_rfl) rfl rfl aA rfl (by trivial) ?_ (fun h=>by first | rfl | cases h)
       refine aU ?_;exact⟨(),trivial,aQ h0 [2,3] _ _ (by decide) ⟨rfl,rfl,trivial⟩ ⟨oe rfl rfl,oe rfl rfl,rfl⟩⟩
      refine bS (key:=3) 20 rfl rfl aA rfl ⟨rfl,rfl,rfl,trivial⟩ ?_
      refine aJ 16 rfl (iS (Zn.of (k:=p.num*(q.den:Int)+q.num*(p.den:Int)) (by omega)) (Zn.of (k:=(p.den:Int)*(q.den:Int)) (by omega))) oF ⟨aB rfl,aB rfl,rfl⟩ (.tup [qF (.of (Rat.divInt (p.num*(q.den:Int)+q.num*(p.den:Int)) ((p.den:Int)*(q.den:Int)))),.one (tv (.int .i64 (if((p.den:Int)*(q.den:Int))=0 then 20 else 0)))]) ?_
      refine df 17 ?_;refine df 18 ?_;refine df 19 ?_;refine aS 21 (by kernel_rfl) rfl rfl aA rfl rfl rfl rfl ⟨rfl,rfl,rfl,trivial⟩ ?_
      refine cZ 22 (by kernel_rfl) rfl rfl aA rfl (by trivial) ?_ (fun h=>by first | rfl | cases h)
      refine aU ?_;exact⟨(),trivial,aQ h0 [2,3] _ _ (by decide) ⟨rfl,rfl,trivial⟩ ⟨oe rfl rfl,oe rfl rfl,rfl⟩⟩
     refine bS (key:=3) 20 rfl rfl aA rfl ⟨rfl,rfl,rfl,trivial⟩ ?_;have hn5:=cI ((p.den:Int)) ((q.den:Int))
     refine aJ 15 rfl (fG (cJ hs) (cJ hs')) iT ⟨aB rfl,aB rfl,rfl⟩ (kF ((p.den:Int)*(q.den:Int))) ?_
     refine aJ 16 rfl (iS (Zn.of (k:=p.num*(q.den:Int)+q.num*(p.den:Int)) (by omega)) (Zn.of (k:=(p.den:Int)*(q.den:Int)) (by omega))) oF ⟨aB rfl,aB rfl,rfl⟩ (.tup [qF (.of (Rat.divInt (p.num*(q.den:Int)+q.num*(p.den:Int)) ((p.den:Int)*(q.den:Int)))),.one (tv (.int .i64 (if((p.den:Int)*(q.den:Int))=0 then 20 else 0)))]) ?_
     refine df 17 ?_;refine df 18 ?_;refine df 19 ?_;refine aS 21 (by kernel_rfl) rfl rfl aA rfl rfl rfl rfl ⟨rfl,rfl,rfl,trivial⟩ ?_
     refine cZ 22 (by kernel_rfl) rfl rfl aA rfl (by trivial) ?_ (fun h=>by first | rfl | cases h)
     refine aU ?_;exact⟨(),trivial,aQ h0 [2,3] _ _ (by decide) ⟨rfl,rfl,trivial⟩ ⟨oe rfl rfl,oe rfl rfl,rfl⟩⟩
    refine bS (key:=3) 20 rfl rfl aA rfl ⟨rfl,rfl,rfl,trivial⟩ ?_;have hn6:=eW (p.num*(q.den:Int)) (q.num*(p.den:Int))
    refine aJ 10 rfl (kU (Zn.of (k:=p.num*(q.den:Int)) (by omega)) (Zn.of (k:=q.num*(p.den:Int)) (by omega))) rM ⟨aB rfl,aB rfl,rfl⟩ (kF (p.num*(q.den:Int)+q.num*(p.den:Int))) ?_
    have hn7:=cI ((p.den:Int)) ((q.den:Int))
    refine aJ 15 rfl (fG (cJ hs) (cJ hs')) iT ⟨aB rfl,aB rfl,rfl⟩ (kF ((p.den:Int)*(q.den:Int))) ?_
    refine aJ 16 rfl (iS (Zn.of (k:=p.num*(q.den:Int)+q.num*(p.den:Int)) (by omega)) (Zn.of (k:=(p.den:Int)*(q.den:Int)) (by omega))) oF ⟨aB rfl,aB rfl,rfl⟩ (.tup [qF (.of (Rat.divInt (p.num*(q.den:Int)+q.num*(p.den:Int)) ((p.den:Int)*(q.den:Int)))),.one (tv (.int .i64 (if((p.den:Int)*(q.den:Int))=0 then 20 else 0)))]) ?_
    refine df 17 ?_;refine df 18 ?_;refine df 19 ?_;refine aS 21 (by kernel_rfl) rfl rfl aA rfl rfl rfl rfl ⟨rfl,rfl,rfl,trivial⟩ ?_
    refine cZ 22 (by kernel_rfl) rfl rfl aA rfl (by trivial) ?_ (fun h=>by first | rfl | cases h)
    refine aU ?_;exact⟨(),trivial,aQ h0 [2,3] _ _ (by decide) ⟨rfl,rfl,trivial⟩ ⟨oe rfl rfl,oe rfl rfl,rfl⟩⟩
   refine bS (key:=3) 20 rfl rfl aA rfl ⟨rfl,rfl,rfl,trivial⟩ ?_;have hn8:=cI (q.num) ((p.den:Int))
   refine aJ 9 rfl (fG (dW hs') (cJ hs)) iT ⟨aB rfl,aB rfl,rfl⟩ (kF (q.num*(p.den:Int))) ?_;have hn9:=eW (p.num*(q.den:Int)) (q.num*(p.den:Int))
   refine aJ 10 rfl (kU (Zn.of (k:=p.num*(q.den:Int)) (by omega)) (Zn.of (k:=q.num*(p.den:Int)) (by omega))) rM ⟨aB rfl,aB rfl,rfl⟩ (kF (p.num*(q.den:Int)+q.num*(p.den:Int))) ?_
   have hn10:=cI ((p.den:Int)) ((q.den:Int))
   refine aJ 15 rfl (fG (cJ hs) (cJ hs')) iT ⟨aB rfl,aB rfl,rfl⟩ (kF ((p.den:Int)*(q.den:Int))) ?_
   refine aJ 16 rfl (iS (Zn.of (k:=p.num*(q.den:Int)+q.num*(p.den:Int)) (by omega)) (Zn.of (k:=(p.den:Int)*(q.den:Int)) (by omega))) oF ⟨aB rfl,aB rfl,rfl⟩ (.tup [qF (.of (Rat.divInt (p.num*(q.den:Int)+q.num*(p.den:Int)) ((p.den:Int)*(q.den:Int)))),.one (tv (.int .i64 (if((p.den:Int)*(q.den:Int))=0 then 20 else 0)))]) ?_
   refine df 17 ?_;refine df 18 ?_;refine df 19 ?_;refine aS 21 (by kernel_rfl) rfl rfl aA rfl rfl rfl rfl ⟨rfl,rfl,rfl,trivial⟩ ?_
   refine cZ 22 (by kernel_rfl) rfl rfl aA rfl (by trivial) ?_ (fun h=>by first | rfl | cases h)
   refine aU ?_;exact⟨(),trivial,aQ h0 [2,3] _ _ (by decide) ⟨rfl,rfl,trivial⟩ ⟨oe rfl rfl,oe rfl rfl,rfl⟩⟩
  refine bS (key:=3) 20 rfl rfl aA rfl ⟨rfl,rfl,rfl,trivial⟩ ?_;have hn11:=cI (p.num) ((q.den:Int))
  refine aJ 4 rfl (fG (dW hs) (cJ hs')) iT ⟨aB rfl,aB rfl,rfl⟩ (kF (p.num*(q.den:Int))) ?_;have hn12:=cI (q.num) ((p.den:Int))
  refine aJ 9 rfl (fG (dW hs') (cJ hs)) iT ⟨aB rfl,aB rfl,rfl⟩ (kF (q.num*(p.den:Int))) ?_;have hn13:=eW (p.num*(q.den:Int)) (q.num*(p.den:Int))
  refine aJ 10 rfl (kU (Zn.of (k:=p.num*(q.den:Int)) (by omega)) (Zn.of (k:=q.num*(p.den:Int)) (by omega))) rM ⟨aB rfl,aB rfl,rfl⟩ (kF (p.num*(q.den:Int)+q.num*(p.den:Int))) ?_
  have hn14:=cI ((p.den:Int)) ((q.den:Int))
  refine aJ 15 rfl (fG (cJ hs) (cJ hs')) iT ⟨aB rfl,aB rfl,rfl⟩ (kF ((p.den:Int)*(q.den:Int))) ?_
  refine aJ 16 rfl (iS (Zn.of (k:=p.num*(q.den:Int)+q.num*(p.den:Int)) (by omega)) (Zn.of (k:=(p.den:Int)*(q.den:Int)) (by omega))) oF ⟨aB rfl,aB rfl,rfl⟩ (.tup [qF (.of (Rat.divInt (p.num*(q.den:Int)+q.num*(p.den:Int)) ((p.den:Int)*(q.den:Int)))),.one (tv (.int .i64 (if((p.den:Int)*(q.den:Int))=0 then 20 else 0)))]) ?_
  refine df 17 ?_;refine df 18 ?_;refine df 19 ?_;refine aS 21 (by kernel_rfl) rfl rfl aA rfl rfl rfl rfl ⟨rfl,rfl,rfl,trivial⟩ ?_
  refine cZ 22 (by kernel_rfl) rfl rfl aA rfl (by trivial) ?_ (fun h=>by first | rfl | cases h)
  refine aU ?_;exact⟨(),trivial,aQ h0 [2,3] _ _ (by decide) ⟨rfl,rfl,trivial⟩ ⟨oe rfl rfl,oe rfl rfl,rfl⟩⟩
 refine sq ?_;refine rl ?_;refine ld ?_;refine st ?_;refine nl ?_;refine rt ?_
 exact en (.inl rfl) rfl (aV (.agg (.cons (.id rfl) (.cons (.id rfl) (.cons (.id rfl) (.cons (.id rfl) .nil)))))) (by decide) (fun h=>by cases h) (by rw[←oU];rfl)
theorem yI {a b:Fr4}{p q:Rat}(ha:Qn a p) (hb:Qn b q) (hs:Sz 17179869184 p) (hs':Sz 17179869184 q):aE false Tryz.prog 43 [] [qF a,qF b] (aN (qF (.of (p*q)))):=by
 refine bF Tryz.func43 rfl Tryz.ntmps43 rfl aA rfl fun N w c0 h0=>?_
 have hs1:=hs.1
 have hs2:(dg 4294967296 ((p.den:Int)).natAbs).length≤17179869184:=hs.2
 have hs3:=hs'.1
 have hs4:(dg 4294967296 ((q.den:Int)).natAbs).length≤17179869184:=hs'.2
 refine sq ?_;refine rl ?_;refine bx 0 ?_;refine bx 1 ?_;refine al 2 ?_;refine nl ?_;refine sq ?_;refine rl ?_;refine ld ?_;refine ca (gS ha) pJ ⟨aB rfl,rfl⟩ (qF (.of p)) ?_
 refine st ?_;refine nl ?_;refine sq ?_;refine rl ?_;refine ld ?_;refine ca (gS hb) pJ ⟨aB rfl,rfl⟩ (qF (.of q)) ?_;refine st ?_;refine nl ?_
 refine md (γ:=Unit) (fun _=>cE [(4,.one (.pt 0 0)),(5,.one (.pt 1 0))]) (fun _=>([⟨33,0,[tv (.bool false),tv (.slice none 0 0),tv (.bool false),tv (.slice none 0 0)]⟩,⟨33,0,((Fr4.of (Rat.divInt (p.num*q.num) ((p.den:Int)*(q.den:Int)))).tr false).map .t⟩]:List Ob).map some) (fun _=>True) ?_ fun _ _=>?_
 ·refine rd [0,1,2] (fun i=>[16].contains i) mixed ?_
  refine dv 0 ?_;refine aW 1 ?_;refine dv 2 ?_;refine aW 3 ?_;refine dv 5 ?_;refine aW 6 ?_;refine dv 7 ?_;refine aW 8 ?_;refine WO.two (i:=4) (j:=14) (by kernel_rfl) ?_ ?_
  ·have hn1:=cI (p.num) (q.num)
   refine cU 4 rfl (fG (dW hs) (dW hs')) iT ⟨aB rfl,aB rfl,rfl⟩ (kF (p.num*q.num)) ?_;refine WO.two (i:=9) (j:=14) (by kernel_rfl) ?_ ?_
   ·have hn2:=cI ((p.den:Int)) ((q.den:Int))
    refine cU 9 rfl (fG (cJ hs) (cJ hs')) iT ⟨aB rfl,aB rfl,rfl⟩ (kF ((p.den:Int)*(q.den:Int))) ?_;refine WO.two (i:=10) (j:=14) (by kernel_rfl) ?_ ?_
    ·refine cU 10 rfl (iS (Zn.of (k:=p.num*q.num) (by omega)) (Zn.of (k:=(p.den:Int)*(q.den:Int)) (by omega))) oF ⟨aB rfl,aB rfl,rfl⟩ (.tup [qF (.of (Rat.divInt (p.num*q.num) ((p.den:Int)*(q.den:Int)))),.one (tv (.int .i64 (if((p.den:Int)*(q.den:Int))=0 then 20 else 0)))]) ?_
     refine df 11 ?_;refine df 12 ?_;refine df 13 ?_;refine eH (key:=3) 14 (by kernel_rfl) rfl rfl aA rfl ⟨rfl,rfl,rfl,trivial⟩ ?_
     refine aS 15 (by kernel_rfl) rfl rfl aA rfl rfl rfl rfl ⟨rfl,rfl,rfl,trivial⟩ ?_
     refine cZ 16 (by kernel_rfl) rfl rfl aA rfl (by trivial) ?_ (fun h=>by first | rfl | cases h)
     refine aU ?_;exact⟨(),trivial,aQ h0 [2,3] _ _ (by decide) ⟨rfl,rfl,trivial⟩ ⟨oe rfl rfl,oe rfl rfl,rfl⟩⟩
    refine bS (key:=3) 14 rfl rfl aA rfl ⟨rfl,rfl,rfl,trivial⟩ ?_
    refine aJ 10 rfl (iS (Zn.of (k:=p.num*q.num) (by omega)) (Zn.of (k:=(p.den:Int)*(q.den:Int)) (by omega))) oF ⟨aB rfl,aB rfl,rfl⟩ (.tup [qF (.of (Rat.divInt (p.num*q.num) ((p.den:Int)*(q.den:Int)))),.one (tv (.int .i64 (if((p.den:Int)*(q.den:Int))=0 then 20 else 0)))]) ?_
    refine df 11 ?_;refine df 12 ?_;refine df 13 ?_;refine aS 15 (by kernel_rfl) rfl rfl aA rfl rfl rfl rfl ⟨rfl,rfl,rfl,trivial⟩ ?_
    refine cZ 16 (by kernel_rfl) rfl rfl aA rfl (by trivial) ?_ (fun h=>by first | rfl | cases h)
    refine aU ?_;exact⟨(),trivial,aQ h0 [2,3] _ _ (by decide) ⟨rfl,rfl,trivial⟩ ⟨oe rfl rfl,oe rfl rfl,rfl⟩⟩
   refine bS (key:=3) 14 rfl rfl aA rfl ⟨rfl,rfl,rfl,trivial⟩ ?_;have hn3:=cI ((p.den:Int)) ((q.den:Int))
   refine aJ 9 rfl (fG (cJ hs) (cJ hs')) iT ⟨aB rfl,aB rfl,rfl⟩ (kF ((p.den:Int)*(q.den:Int))) ?_
   refine aJ 10 rfl (iS (Zn.of (k:=p.num*q.num) (by omega)) (Zn.of (k:=(p.den:Int)*(q.den:Int)) (by omega))) oF ⟨aB rfl,aB rfl,rfl⟩ (.tup [qF (.of (Rat.divInt (p.num*q.num) ((p.den:Int)*(q.den:Int)))),.one (tv (.int .i64 (if((p.den:Int)*(q.den:Int))=0 then 20 else 0)))]) ?_
   refine df 11 ?_;refine df 12 ?_;refine df 13 ?_;refine aS 15 (by kernel_rfl) rfl rfl aA rfl rfl rfl rfl ⟨rfl,rfl,rfl,trivial⟩ ?_
   refine cZ 16 (by kernel_rfl) rfl rfl aA rfl (by trivial) ?_ (fun h=>by first | rfl | cases h)
   refine aU ?_;exact⟨(),trivial,aQ h0 [2,3] _ _ (by decide) ⟨rfl,rfl,trivial⟩ ⟨oe rfl rfl,oe rfl rfl,rfl⟩⟩
  refine bS (key:=3) 14 rfl rfl aA rfl ⟨rfl,rfl,rfl,trivial⟩ ?_;have hn4:=cI (p.num) (q.num)
  refine aJ 4 rfl (fG (dW hs) (dW hs')) iT ⟨aB rfl,aB rfl,rfl⟩ (kF (p.num*q.num)) ?_;have hn5:=cI ((p.den:Int)) ((q.den:Int))
  refine aJ 9 rfl (fG (cJ hs) (cJ hs')) iT ⟨aB rfl,aB rfl,rfl⟩ (kF ((p.den:Int)*(q.den:Int))) ?_
  refine aJ 10 rfl (iS (Zn.of (k:=p.num*q.num) (by omega)) (Zn.of (k:=(p.den:Int)*(q.den:Int)) (by omega))) oF ⟨aB rfl,aB rfl,rfl⟩ (.tup [qF (.of (Rat.divInt (p.num*q.num) ((p.den:Int)*(q.den:Int)))),.one (tv (.int .i64 (if((p.den:Int)*(q.den:Int))=0 then 20 else 0)))]) ?_
  refine df 11 ?_;refine df 12 ?_;refine df 13 ?_;refine aS 15 (by kernel_rfl) rfl rfl aA rfl rfl rfl rfl ⟨rfl,rfl,rfl,trivial⟩ ?_
  refine cZ 16 (by kernel_rfl) rfl rfl aA rfl (by trivial) ?_ (fun h=>by first | rfl | cases h)
  refine aU ?_;exact⟨(),trivial,aQ h0 [2,3] _ _ (by decide) ⟨rfl,rfl,trivial⟩ ⟨oe rfl rfl,oe rfl rfl,rfl⟩⟩
 refine sq ?_;refine rl ?_;refine ld ?_;refine st ?_;refine nl ?_;refine rt ?_
 exact en (.inl rfl) rfl (aV (.agg (.cons (.id rfl) (.cons (.id rfl) (.cons (.id rfl) (.cons (.id rfl) .nil)))))) (by decide) (fun h=>by cases h) (congrArg (fun q=>qF (.of q)) (by rw[←Rat.divInt_mul_divInt,Rat.num_divInt_den,Rat.num_divInt_den]))
theorem HP {a b:Fr4}{p q:Rat}(ha:Qn a p) (hb:Qn b q) (hs:Sz 17179869184 p) (hs':Sz 17179869184 q):aE false Tryz.prog 79 [] [qF a,qF b] (aN (qF (.of (p-q)))):=by
 refine bF Tryz.func79 rfl Tryz.ntmps79 rfl aA rfl fun N w c0 h0=>?_
 refine sq ?_;refine rl ?_;refine bx 0 ?_;refine bx 1 ?_;refine al 2 ?_;refine nl ?_;refine sq ?_;refine rd [0,1,2] (fun i=>[4].contains i) mixed ?_
 refine aW 0 ?_;refine aW 1 ?_;refine aJ 2 rfl (yH hb) Np ⟨aB rfl,rfl⟩ (qF (.of (-q))) ?_
 refine aJ 3 rfl (Re ha (Qn.of (p:=(-q)) (yJ hs')) hs (yJ hs')) Yt ⟨aB rfl,aB rfl,rfl⟩ (qF (.of (p+(-q)))) ?_;refine dst 4 ?_;refine aU ?_;refine rt ?_
 exact en (.inl rfl) rfl (aV (.agg (.cons (.id rfl) (.cons (.id rfl) (.cons (.id rfl) (.cons (.id rfl) .nil)))))) (by decide) (fun h=>by cases h) (by rw[Rat.sub_eq_add_neg];rfl)
theorem Ab {a:Fr4}{p:Rat}(ha:Qn a p):aE true Tryz.prog 46 [] [qF a] (aN (.one (tv (.int .i64 p.num.sign)))):=by
 refine bF Tryz.func46 rfl Tryz.ntmps46 rfl aA rfl fun N w c0 h0=>?_
 refine sq ?_;refine rl ?_;refine bx 0 ?_;refine o1 ?_;refine nl ?_;refine sq ?_;refine rl ?_;refine ld ?_;refine ca (gS ha) pJ ⟨aB rfl,rfl⟩ (qF (.of p)) ?_;refine o1 ?_
 refine ca (jE (dW ha.sz)) rL ⟨aB rfl,rfl⟩ (.one (tv (.int .i64 (p.num).sign))) ?_;refine o1 ?_;refine nl ?_;refine rt ?_
 exact en (.inl rfl) rfl (aV (aO _)) (by decide) (fun _=>trivial) rfl
theorem Fq {a b:Fr4}{p q:Rat}(ha:Qn a p) (hb:Qn b q) (hs:Sz 17179869184 p) (hs':Sz 17179869184 q):aE true Tryz.prog 35 [] [qF a,qF b] (aN (.one (tv (.int .i64 (p-q).num.sign)))):=by
 refine bF Tryz.func35 rfl Tryz.ntmps35 rfl aA rfl fun N w c0 h0=>?_
 refine sq ?_;refine rl ?_;refine bx 0 ?_;refine bx 1 ?_;refine o1 ?_;refine nl ?_;refine sq ?_;refine rl ?_;refine ld ?_;refine ld ?_
 refine ca (HP ha hb hs hs') QZ ⟨aB rfl,aB rfl,rfl⟩ (qF (.of (p-q))) ?_
 refine ca (Ab (Qn.of (p:=(p-q)) (HR hs hs'))) Vn ⟨aB rfl,rfl⟩ (.one (tv (.int .i64 (p-q).num.sign))) ?_;refine o1 ?_;refine nl ?_;refine rt ?_
 exact en (.inl rfl) rfl (aV (aO _)) (by decide) (fun _=>trivial) rfl
theorem yK {a b:Fr4}{p q:Rat}(ha:Qn a p) (hb:Qn b q) (hs:Sz 17179869184 p) (hs':Sz 17179869184 q):aE false Tryz.prog 37 [] [qF a,qF b] (aN (.tup [qF (.of (p/q)),.one (tv (.int .i64 (if q=0 then 20 else 0)))])):=by
 refine bF Tryz.func37 rfl Tryz.ntmps37 rfl aA rfl fun N9 w9 c0 h0=>?_
 have hs1:=hs.1
 have hs2:(dg 4294967296 ((p.den:Int)).natAbs).length≤17179869184:=hs.2
 have hs3:=hs'.1
 have hs4:(dg 4294967296 ((q.den:Int)).natAbs).length≤17179869184:=hs'.2
 refine sq ?_;refine rl ?_;refine bx 0 ?_;refine bx 1 ?_;refine al 2 ?_;refine o1 ?_;refine nl ?_;refine sq ?_;refine rl ?_;refine ld ?_
 refine ca (gS ha) pJ ⟨aB rfl,rfl⟩ (qF (.of p)) ?_;refine st ?_;refine nl ?_;refine sq ?_;refine rl ?_;refine ld ?_;refine ca (gS hb) pJ ⟨aB rfl,rfl⟩ (qF (.of q)) ?_
 refine st ?_;refine nl ?_;refine sq ?_;refine rd [0,1,2] (fun i=>[13,14].contains i) mixed ?_
 refine dv 0 ?_;refine aW 1 ?_;refine dv 2 ?_;refine aW 3 ?_;refine dv 5 ?_;refine aW 6 ?_;refine dv 7 ?_;refine aW 8 ?_;have hn1:=cI (p.num) ((q.den:Int))
 refine aJ 4 rfl (fG (dW hs) (cJ hs')) iT ⟨aB rfl,aB rfl,rfl⟩ (kF (p.num*(q.den:Int))) ?_;have hn2:=cI ((p.den:Int)) (q.num)
 refine aJ 9 rfl (fG (cJ hs) (dW hs')) iT ⟨aB rfl,aB rfl,rfl⟩ (kF ((p.den:Int)*q.num)) ?_
 refine aJ 10 rfl (iS (Zn.of (k:=(p.num*(q.den:Int))) (by omega)) (Zn.of (k:=((p.den:Int)*q.num)) (by omega))) oF ⟨aB rfl,aB rfl,rfl⟩ (.tup [qF (.of (Rat.divInt ((p.num*(q.den:Int))) (((p.den:Int)*q.num)))),.one (tv (.int .i64 (if(((p.den:Int)*q.num))=0 then 20 else 0)))]) ?_
 refine df 11 ?_;refine df 12 ?_;refine dst 13 ?_;refine cZ 14 (by kernel_rfl) rfl rfl aA rfl (by trivial) ?_ (fun h=>by first | rfl | cases h)
 refine aU ?_;refine rt ?_
 exact en (.inl rfl) rfl (dB (.cons (.agg (.cons (.id rfl) (.cons (.id rfl) (.cons (.id rfl) (.cons (.id rfl) .nil))))) (.cons (aO _) .nil))) (by decide) (fun h=>by cases h) (by have e9:(if((p.den:Int)*q.num)=0 then(20:Int)else 0)=if q=0 then 20 else 0:=(by simp only[Ey]);rw[e9,Nb];rfl)
theorem Vo {X os:List Nat}{k d rest:Nat}(h0:0<k) (hk:k≤X.length) (h:vl 65536 os*d+rest=vl 65536 (X.drop k)):
  vl 65536 (((65536*rest+nth X (k-1))/d)::os)*d+(65536*rest+nth X (k-1))%d=vl 65536 (X.drop (k-1)):=by
 rw[gY 65536 h0 hk,←h,eS,Nat.add_mul,Nat.mul_add,Nat.mul_assoc]
 have h2:=Nat.div_add_mod (65536*rest+nth X (k-1)) d
 rw[Nat.mul_comm]at h2
 omega
theorem Vp {X os:List Nat}{d rest:Nat}(hd:rest<d) (h:vl 65536 os*d+rest=vl 65536 (X.drop 0)):vl 65536 os=vl 65536 X/d∧rest=vl 65536 X%d:=by
 rw[List.drop_zero,Nat.mul_comm]at h
 refine⟨?_,?_⟩
 ·rw[←h,Nat.mul_add_div (by omega),Nat.div_eq_of_lt hd,Nat.add_zero]
 rw[←h,Nat.mul_add_mod,Nat.mod_eq_of_lt hd]
theorem Rf {rest d x:Nat}(h:rest<d) (hx:x<65536):(65536*rest+x)/d<65536:=by
 rw[Nat.div_lt_iff_lt_mul (by omega)]
 have:65536*(rest+1)≤65536*d:=Nat.mul_le_mul_left _ h
 omega
theorem BV {k v:Nat}{os:List Nat}(h:0<k):(List.replicate k 0++os).set (k-1) v=List.replicate (k-1) 0++v::os:=by
 obtain⟨j,rfl⟩:∃j,k=j+1:=⟨k-1,by omega⟩
 rw[List.replicate_succ',List.append_assoc,List.set_append_right _ _ (by simp)]
 simp
theorem Ip {xs:List Nat}{d:Nat}(hx:xs.length≤1099511627776) (hlx:Lim 4294967296 xs) (hd0:0<d) (hd:d<4294967296):aE true Tryz.prog 106 [] [.one (.t (sU false xs)),.one (tv (.int .u32 ((d:Nat):Int)))] (aN (.tup [.one (.t (sU true (dg 4294967296 (vl 4294967296 xs/d)))),.one (tv (.int .u32 ((vl 4294967296 xs%d:Nat):Int))),.one (tv (.int .i64 0))])):=by
 refine bF Tryz.func106 rfl Tryz.ntmps106 rfl aA rfl fun N9 w9 c0 h0=>?_
 refine sq ?_;refine rl ?_;(iterate 3 refine o1 ?_);refine nl ?_;refine sq ?_;refine sq ?_;refine rl ?_;refine o1 ?_;refine o1 ?_;refine nl ?_;refine bR rfl (fun h1=>?_) (fun h1=>?_)
 ·omega
 refine sk ?_;refine sq ?_;refine rl ?_;refine o1 ?_;refine ca (hJ hx hlx) pB ⟨a1 rfl,rfl⟩ (.one (.t (sI false (dg 65536 (vl 4294967296 xs))))) ?_;refine o1 ?_;refine nl ?_
 refine sq ?_;have hdx:=dI (v:=vl 4294967296 xs) (L:=xs.length) (by rw[dS (by omega) hlx];exact bZ _)
 have hX:=aM (B:=65536) (by omega) (vl 4294967296 xs)
 have hvX:=bK (B:=65536) (by omega) (vl 4294967296 xs)
 generalize dg 65536 (vl 4294967296 xs)=X at hdx hX hvX⊢;refine rl ?_;refine o1 ?_;refine o1 ?_;refine mk (m:=X.length) 0 (by omega) (wR _) ?_
 refine o1 ?_;refine nl ?_;refine sq ?_;refine rl ?_;refine o1 ?_;refine nl ?_;refine sq ?_;refine sq ?_;refine rl ?_;(iterate 4 refine o1 ?_);refine nl ?_;refine bl ?_
 refine lp (γ:=Nat×Nat×List Nat) (fun s=>cE [(1,.one (tv (.int .u32 ((d:Nat):Int)))),(7,.one (.t (sI false X))),(8,.one (.sl 0 0 (X.length))),(9,.one (tv (.int .i64 ((s.2.1:Nat):Int)))),(10,.one (tv (.int .i64 (((s.1:Nat):Int)-1))))]) (fun s=>[(⟨3,1,(dF (List.replicate s.1 0++s.2.2)).map .t⟩:Ob)].map some) (fun s=>s.1≤X.length∧Lim 65536 s.2.2∧s.2.2.length+s.1=X.length∧s.2.1<d∧vl 65536 s.2.2*d+s.2.1=vl 65536 (X.drop s.1)) (fun s=>s.1) (X.length,0,[]) ⟨Nat.le_refl _,Lim.nil,Nat.zero_add _,hd0,(by rw[List.drop_length];simp[vl])⟩ (aQ h0 [0] _ _ (by decide) ⟨rfl,rfl,rfl,rfl,rfl,trivial⟩ ⟨cV (congrArg (fun l:List Nat=>some (⟨3,1,(dF l).map .t⟩:Ob)) ((List.append_nil _).symm)),rfl⟩) ?_
 rintro⟨k,rest,os⟩ ⟨hk,hol,hos,hr,hv⟩;dsimp only at hk hol hos hr hv⊢;have hn:=hX.nth (by omega) (k-1)
 have hlen:(List.replicate k 0++os).length=X.length:=by rw[List.length_append,List.length_replicate];omega
 refine sq ?_;refine sq ?_;refine rl ?_;refine o1 ?_;refine o1 ?_;refine nl ?_;refine bR rfl (fun h2=>?_) (fun h2=>?_)
 ·refine sk ?_;refine sq ?_;refine bl ?_;refine sq ?_;refine rl ?_;refine o1 ?_;refine o1 ?_;refine WL.cast (t:=27) (u':=.int .i64 ((65536*rest:Nat):Int)) rfl (aI (by omega)) ?_
  refine o1 ?_;refine o1 ?_;refine WL.cast (t:=29) (u':=.int .i64 ((k-1:Nat):Int)) rfl (aI (by omega)) ?_
  refine o1 ?_;refine kR ([.v (.int .i64 ((nth X (k-1):Nat):Int))]) (eF X (k:=k-1) (by omega)) ?_
  refine o1 ?_;refine WL.cast (t:=32) (u':=.int .i64 ((65536*rest+(nth X (k-1)):Nat):Int)) rfl (aI (by omega)) ?_
  refine o1 ?_;refine nl ?_;refine sq ?_;refine rl ?_;refine o1 ?_;refine o1 ?_;refine WL.cast (t:=34) (u':=.int .i64 ((k-1:Nat):Int)) rfl (aI (by omega)) ?_
  (iterate 3 refine o1 ?_);refine WL.cast (t:=37) (u':=.int .i64 ((d:Nat):Int)) rfl (aI (by omega)) ?_
  refine o1 ?_ (hC:=(fH d (by omega) (by simp only[fP];omega)))
  refine WL.cast (t:=38) (u':=.int .i64 (((65536*rest+(nth X (k-1)))/d:Nat):Int)) rfl (aI (eD _ d)) ?_;refine o1 ?_
  refine Bt (nN (List.replicate k 0++os) (k:=k-1) (v:=(65536*rest+(nth X (k-1)))/d) (by omega)) (qJ (List.replicate k 0++os) (by omega)) ?_
  refine nl ?_;refine rl ?_;(iterate 3 refine o1 ?_);refine WL.cast (t:=42) (u':=.int .i64 ((d:Nat):Int)) rfl (aI (by omega)) ?_
  refine o1 ?_ (hC:=(by omega))
  refine WL.cast (t:=43) (u':=.int .i64 (((65536*rest+(nth X (k-1)))%d:Nat):Int)) rfl (aI (fK _ d)) ?_;refine o1 ?_;refine nl ?_;refine rl ?_;(iterate 3 refine o1 ?_)
  refine nl ?_
  exact⟨(k-1,(65536*rest+nth X (k-1))%d,(65536*rest+nth X (k-1))/d::os),by dsimp only;omega,⟨by dsimp only;omega,Lim.cons (Rf hr hn) hol,by dsimp only;rw[List.length_cons];omega,Nat.mod_lt _ (by omega),Vo (by omega) hk hv⟩,aQ h0 [0] _ _ (by decide) ⟨rfl,rfl,rfl,rfl,nE (by omega),trivial⟩ ⟨cV (congrArg (fun l:List Nat=>some (⟨3,1,(dF l).map .t⟩:Ob)) (BV (by omega))),rfl⟩⟩
 refine ex ?_;refine sq ?_;refine rl ?_;have hk0:k=0:=by omega
 subst hk0;obtain⟨e1,e2⟩:=Vp hr hv
 rw[hvX]at e1 e2;refine WL.sub (tR (i:=8) (zs':=os) rfl rfl rfl (by simp;omega) rfl) ?_
 refine o1 ?_;refine gH 1 (rN (by omega) (by assumption)) Dh ⟨a1 rfl,rfl⟩ ?_
 refine o1 ?_;refine o1 ?_;refine WL.cast (t:=47) (u':=.int .u32 ((rest:Nat):Int)) rfl (aI (by omega)) ?_
 (iterate 3 refine o1 ?_);refine nl ?_;refine rt ?_
 exact en (.inl rfl) rfl (gI (.cons (.one (.sl (trs:=aR (dg 4294967296 (vl 65536 os))) rfl rfl (bL _) (aX _))) (.cons (aO _) (.cons (aO _) .nil)))) (by decide) (fun _=>⟨.inl ⟨rfl,dU _⟩,trivial,trivial,trivial⟩) (by rw[e1,←e2];rfl)
theorem BW {u d:Nat}(h:(dg 4294967296 u).length≤1099511627776) (hd0:0<d) (hd:d<4294967296):aE true Tryz.prog 106 [] [.one (.t (sU false (dg 4294967296 u))),.one (tv (.int .u32 ((d:Nat):Int)))] (aN (.tup [.one (.t (sU true (dg 4294967296 (u/d)))),.one (tv (.int .u32 ((u%d:Nat):Int))),.one (tv (.int .i64 0))])):=by
 have h1:=Ip h (aM (by omega) u) hd0 hd
 rwa[bK (by omega)]at h1
theorem HS {a:Zi}{k:Int}(ha:Zn a k) (hs:(dg 4294967296 k.natAbs).length≤1000000):aE true Tryz.prog 53 [] [gF a] (aN (.one (tv (.string (aC (Rg k)))))):=by
 refine bF Tryz.func53 rfl Tryz.ntmps53 rfl aA rfl fun N9 w9 c0 h0=>?_
 have hdl:=Vq hs
 refine sq ?_;refine rl ?_;refine bx 0 ?_;refine o1 ?_;refine nl ?_;refine sq ?_;refine rl ?_;refine ld ?_;refine ca (eY ha) lQ ⟨aB rfl,rfl⟩ (kF (k)) ?_;refine st ?_;refine nl ?_
 refine sq ?_;refine rl ?_;refine o1 ?_;refine nl ?_;refine sq ?_;refine rl ?_;refine o1 ?_;refine ld ?_;refine o1 ?_;refine nl ?_;refine sq ?_;refine bl ?_
 refine lp (γ:=List Nat×Nat) (fun s=>cE [(1,.one (.pt 0 0)),(3,.one (tv (.string (aC ((dG s.1).reverse))))),(4,.one (.t (sU false (dg 4294967296 s.2))))]) (fun s=>[(⟨31,0,[tv (.bool (aL (k))),.t (sU false (dg 4294967296 (k).natAbs))]⟩:Ob)].map some) (fun s=>Lim 10 s.1∧s.1++dg 10 s.2=dg 10 (k).natAbs∧s.2≤(k).natAbs) (fun s=>s.2) ([],(k).natAbs) ⟨Lim.nil,rfl,Nat.le_refl _⟩ (aQ h0 [0] _ _ (by decide) ⟨rfl,rfl,rfl,trivial⟩ ⟨oe rfl rfl,rfl⟩) ?_
 rintro⟨ds,u⟩ ⟨hd,hv,hu⟩;dsimp only at hd hv hu⊢;have hul:=dC hu
 have hdl2:=congrArg List.length hv
 rw[List.length_append]at hdl2;refine sq ?_;refine sq ?_;refine rl ?_;(iterate 3 refine o1 ?_);refine nl ?_;refine bR rfl (fun h1=>?_) (fun h1=>?_)
 ·refine sk ?_;refine bl ?_;refine sq ?_;have hup:=rH (B:=4294967296) (u:=u) (by omega)
  have hdp:=kI (B:=10) (n:=u) (by omega) (by omega)
  refine rl ?_;refine o1 ?_
  refine ca (BW (u:=u) (d:=10) (by omega) (by omega) (by omega)) MS ⟨a1 rfl,a1 rfl,rfl⟩ (.tup [.one (.t (sU false (dg 4294967296 (u/10)))),.one (tv (.int .u32 ((u%10:Nat):Int))),.one (tv (.int .i64 0))]) ?_
  (iterate 7 refine o1 ?_);refine nl ?_;refine sq ?_;refine rl ?_;refine o1 ?_;refine o1 ?_;refine WL.cast (t:=22) (u':=.int .u32 ((48+(u%10):Nat):Int)) rfl (aI (by omega)) ?_
  refine o1 ?_;refine WL.cast (t:=23) (u':=.int .u8 ((48+(u%10):Nat):Int)) rfl (aI (by omega)) ?_
  refine bs 1 ?_;refine PN (xs:=[48+(u%10)]) (Rh rfl rfl) rfl ?_;refine o1 ?_
  refine o1 ?_ (hC:=(by rw[aF,aF,List.length_reverse,fV];show 1+ds.length≤_;omega))
  refine WL.cast (t:=27) (u':=.string (aC ((dG (ds++[u%10])).reverse))) rfl (congrArg Value.string ((fZ _ _).trans (congrArg aC (by simp[dG])))) ?_
  refine o1 ?_;refine nl ?_;refine rl ?_;refine o1 ?_;refine o1 ?_;refine nl ?_
  exact⟨(ds++[u%10],u/10),by dsimp only;omega,⟨hd.append (Lim.cons (Nat.mod_lt _ (by omega)) Lim.nil),(by dsimp only;rw[List.append_assoc,←hv,hdp];rfl),(by dsimp only;omega)⟩,aQ h0 [0] _ _ (by decide) ⟨rfl,rfl,rfl,trivial⟩ ⟨oe rfl rfl,rfl⟩⟩
 refine ex ?_;refine sq ?_;refine sq ?_;have hu0:u=0:=(dM (B:=4294967296) (by omega)).1 (List.eq_nil_of_length_eq_zero (by omega))
 rw[hu0,fJ,List.append_nil]at hv;refine rl ?_;refine o1 ?_;refine o1 ?_
 refine WL.cast (t:=30) (u':=.bool (decide ((dG ds).reverse=[]))) rfl (congrArg Value.bool (gX (lR (vB hd)))) ?_;refine nl ?_;refine iL rfl (fun h2=>?_) (fun h2=>?_)
 ·refine sq ?_;refine rl ?_;refine o1 ?_;refine nl ?_;refine rt ?_;have hk0:k=0:=by
   have h9:=congrArg List.length (of_decide_eq_true h2)
   rw[List.length_reverse,fV,hv,List.length_nil]at h9;have h8:=(dM (B:=10) (by omega)).1 (List.eq_nil_of_length_eq_zero h9)
   omega
  subst hk0;exact en (.inl rfl) rfl (aV (aO _)) (by decide) (fun _=>trivial) (congrArg (fun z=>FV.one (tv (.string z))) (rfl))
 refine sk ?_;refine sq ?_;refine sq ?_;refine rl ?_;refine o1 ?_;refine ld ?_;refine nl ?_;refine iL rfl (fun h3=>?_) (fun h3=>?_)
 ·refine sq ?_;refine rl ?_;refine o1 ?_;refine o1 ?_ (hC:=(by rw[aF,List.length_reverse,fV];show 1+ds.length≤_;omega))
  refine WL.cast (t:=34) (u':=.string (aC (45::(dG ds).reverse))) rfl (congrArg Value.string (fZ [45] _)) ?_;refine o1 ?_;refine nl ?_;refine rt ?_
  have hk0:(k).natAbs≠0:=fun h9=>by
   rw[h9,fJ]at hv;rw[hv]at h2;simp[dG]at h2
  have ht:tx (k).natAbs=(dG ds).reverse:=by unfold tx;rw[if_neg hk0,hv]
  exact en (.inl rfl) rfl (aV (aO _)) (by decide) (fun _=>trivial) (congrArg (fun z=>FV.one (tv (.string z))) (congrArg aC (by unfold Rg;rw[if_pos (FU h3),ht])))
 refine sk ?_;refine sq ?_;refine rl ?_;refine o1 ?_;refine o1 ?_;refine nl ?_;refine rt ?_;have hk0:(k).natAbs≠0:=fun h9=>by
  rw[h9,fJ]at hv;rw[hv]at h2;simp[dG]at h2
 have ht:tx (k).natAbs=(dG ds).reverse:=by unfold tx;rw[if_neg hk0,hv]
 exact en (.inl rfl) rfl (aV (aO _)) (by decide) (fun _=>trivial) (congrArg (fun z=>FV.one (tv (.string z))) (congrArg aC (by unfold Rg;rw[if_neg (FW h3),ht])))
theorem wS {l m:List Nat}{a:Nat}(hl:Lim 256 l) (hm:l.drop a=m) (ha:a≤10000000) (hn9:l.length≤10000000):aE true Tryz.prog 129 [] [.one (tv (.string (aC l))),.one (tv (.int .i64 ((a:Nat):Int)))] (aN (.one (tv (.int .i64 (((wh m).length:Nat):Int))))):=by
 refine bF Tryz.func129 rfl Tryz.ntmps129 rfl aA rfl fun N9 w9 c0 h0=>?_
 have hwl9:(wh m).length≤l.length:=by rw[←hm];exact Nat.le_trans (yL _) (by rw[List.length_drop];omega)
 refine sq ?_;refine rl ?_;refine o1 ?_;refine nl ?_;refine sq ?_;refine rl ?_;refine o1 ?_;refine nl ?_;refine sq ?_;refine bl ?_
 refine lp (γ:=Nat) (fun s=>cE [(0,.one (tv (.string (aC l)))),(1,.one (tv (.int .i64 ((a:Nat):Int)))),(5,.one (tv (.int .i64 ((s:Nat):Int))))]) (fun s=>([]:List Ob).map some) (fun s=>s≤(wh m).length) (fun s=>l.length-s) 0 (Nat.zero_le _) (aQ h0 [] _ _ (by decide) ⟨rfl,rfl,rfl,trivial⟩ rfl) ?_
 rintro n hn;refine sq ?_;refine sq ?_;refine rl ?_;(iterate 3 refine o1 ?_);refine WL.cast (t:=8) (u':=.int .i64 ((a+n:Nat):Int)) rfl (aI (by omega)) ?_
 refine o1 ?_;refine o1 ?_;refine WL.cast (t:=10) (u':=.int .i64 ((l.length:Nat):Int)) rfl (congrArg (fun n:Nat=>Value.int .i64 (n:Int)) (aF _)) ?_
 refine o1 ?_;refine o1 ?_;refine WL.split (t:=12) rfl (fun h1=>?_) (fun h1=>?_)
 ·(iterate 4 refine o1 ?_);refine WL.cast (t:=16) (u':=.int .i64 ((a+n:Nat):Int)) rfl (aI (by omega)) ?_
  refine o1 ?_ (hC:=(by rw[aF];omega))
  refine WL.cast (t:=17) (u':=.int .u8 (((nth l (a+n)):Nat):Int)) rfl (congrArg (fun n:Nat=>Value.int .u8 (n:Int)) (eM (i:=a+n) (by omega) (dR hl (by omega)))) ?_
  (iterate 3 refine o1 ?_);refine WL.split (t:=20) rfl (fun h2=>?_) (fun h2=>?_)
  ·(iterate 4 refine o1 ?_);refine WL.cast (t:=24) (u':=.int .i64 ((a+n:Nat):Int)) rfl (aI (by omega)) ?_
   refine o1 ?_ (hC:=(by rw[aF];omega))
   refine WL.cast (t:=25) (u':=.int .u8 (((nth l (a+n)):Nat):Int)) rfl (congrArg (fun n:Nat=>Value.int .u8 (n:Int)) (eM (i:=a+n) (by omega) (dR hl (by omega)))) ?_
   refine o1 ?_;refine o1 ?_;refine nl ?_;refine bR rfl (fun h3=>?_) (fun h3=>?_)
   ·refine sk ?_;refine bl ?_;refine rl ?_;refine o1 ?_;refine o1 ?_;refine WL.cast (t:=29) (u':=.int .i64 ((n+1:Nat):Int)) rfl (aI (by omega)) ?_
    refine o1 ?_;refine nl ?_;exact⟨n+1,by omega,RA hm hn (by omega) (by omega) (by omega),aQ h0 [] _ _ (by decide) ⟨rfl,rfl,rfl,trivial⟩ rfl⟩
   refine ex ?_;refine sq ?_;refine rl ?_;refine o1 ?_;refine o1 ?_;refine nl ?_;refine rt ?_;have he:=Vr hm hn (.inr (by omega))
   exact en (.inl rfl) rfl (aV (aO _)) (by decide) (fun _=>trivial) (congrArg (fun z=>FV.one (tv (.int .i64 z))) (by rw[he]))
  (iterate 6 refine cH ?_);refine o1 ?_;refine nl ?_;refine fW rfl ?_;refine ex ?_;refine sq ?_;refine rl ?_;refine o1 ?_;refine o1 ?_;refine nl ?_;refine rt ?_
  have he:=Vr hm hn (.inr (by omega))
  exact en (.inl rfl) rfl (aV (aO _)) (by decide) (fun _=>trivial) (congrArg (fun z=>FV.one (tv (.int .i64 z))) (by rw[he]))
 (iterate 6 refine cH ?_);refine o1 ?_;refine o1 ?_;(iterate 6 refine cH ?_);refine o1 ?_;refine nl ?_;refine fW rfl ?_;refine ex ?_;refine sq ?_;refine rl ?_;refine o1 ?_;refine o1 ?_
 refine nl ?_;refine rt ?_;have he:=Vr hm hn (.inl (by omega))
 exact en (.inl rfl) rfl (aV (aO _)) (by decide) (fun _=>trivial) (congrArg (fun z=>FV.one (tv (.int .i64 z))) (by rw[he]))
theorem HU {m:List Nat}(h:(wh m).length=0∨(1<(wh m).length∧nth m 0=48)):b1 m=true:=by
 unfold b1
 simpa using h
theorem HV {m:List Nat}(h:¬((wh m).length=0∨(1<(wh m).length∧nth m 0=48))):b1 m=false:=by
 unfold b1
 rw[Bool.eq_false_iff]
 intro h2
 exact h (by simpa using h2)
theorem Ka {l:List Nat}{a b:Nat}{c:Bool}(hB:gZ (aG l)=false) (ha:a=(wh (aG l)).length) (hb:b=(pl (aG l)).length) (hc:c=decide ((rr (aG l))=[])):FV.tup [.one (tv (.int .i64 ((a:Nat):Int))),.one (tv (.int .i64 ((b:Nat):Int))),.one (tv (.bool c))]=FV.tup [.one (tv (.int .i64 ((sS l:Nat):Int))),.one (tv (.int .i64 ((sT l:Nat):Int))),.one (tv (.bool (vU l)))]:=by
 unfold sS sT vU
 rw[hB,ha,hb,hc]
 rfl
theorem HW {l:List Nat}(hl:Lim 256 l) (hn9:l.length≤1000000):aE true Tryz.prog 77 [] [.one (tv (.string (aC l)))] (aN (.tup [.one (tv (.int .i64 ((sS l:Nat):Int))),.one (tv (.int .i64 ((sT l:Nat):Int))),.one (tv (.bool (vU l)))])):=by
 refine bF Tryz.func77 rfl Tryz.ntmps77 rfl aA rfl fun N9 w9 c0 h0=>?_
 have hal:=qK l
 have hwl:=yL (aG l)
 have ha1:fT l≤1:=by unfold fT;split <;> omega
 refine sq ?_;refine rl ?_;(iterate 3 refine o1 ?_);refine nl ?_;refine sq ?_;refine rl ?_;refine o1 ?_;refine nl ?_
 refine md (γ:=Unit) (fun _=>cE [(0,.one (tv (.string (aC l)))),(5,.one (tv (.int .i64 (((fT l):Nat):Int))))]) (fun _=>([]:List Ob).map some) (fun _=>True) ?_ fun _ _=>?_
 ·refine sq ?_;refine rl ?_;refine o1 ?_;refine o1 ?_;refine WL.cast (t:=10) (u':=.int .i64 ((l.length:Nat):Int)) rfl (congrArg (fun n:Nat=>Value.int .i64 (n:Int)) (aF _)) ?_
  refine o1 ?_;refine o1 ?_;refine WL.split (t:=12) rfl (fun h1=>?_) (fun h1=>?_)
  ·refine o1 ?_;refine o1 ?_ (hC:=(by rw[aF];show 0<l.length;omega))
   refine WL.cast (t:=14) (u':=.int .u8 (((nth l (0)):Nat):Int)) rfl (congrArg (fun n:Nat=>Value.int .u8 (n:Int)) (eM (i:=0) (by omega) (dR hl (by omega)))) ?_
   refine o1 ?_;refine o1 ?_;refine nl ?_;refine bR rfl (fun h2=>?_) (fun h2=>?_)
   ·refine rl ?_;refine o1 ?_;refine nl ?_;exact⟨(),trivial,aQ h0 [] _ _ (by decide) ⟨rfl,nE (by rw[MT (by omega) (by omega)];rfl),trivial⟩ rfl⟩
   refine sk ?_;exact⟨(),trivial,aQ h0 [] _ _ (by decide) ⟨rfl,nE (by rw[Yu (by omega)];rfl),trivial⟩ rfl⟩
  (iterate 3 refine cH ?_);refine o1 ?_;refine nl ?_;refine fW rfl ?_;refine sk ?_;exact⟨(),trivial,aQ h0 [] _ _ (by decide) ⟨rfl,nE (by rw[Yu (by omega)];rfl),trivial⟩ rfl⟩
 refine sq ?_;refine rl ?_;refine o1 ?_;refine o1 ?_
 refine ca (wS (m:=aG l) hl (rP l) (by omega) (by omega)) Nq ⟨a1 rfl,a1 rfl,rfl⟩ (.one (tv (.int .i64 (((wh (aG l)).length:Nat):Int)))) ?_
 refine o1 ?_;refine nl ?_;refine sq ?_;refine sq ?_;have h00:nth (aG l) 0=nth l (fT l):=mS (n:=0) (rP l)
 refine rl ?_;(iterate 3 refine o1 ?_);refine WL.split (t:=22) rfl (fun h3=>?_) (fun h3=>?_)
 ·(iterate 8 refine cH ?_);refine o1 ?_;refine nl ?_;refine fX rfl ?_;refine sq ?_;refine rl ?_;(iterate 3 refine o1 ?_);refine nl ?_;refine rt ?_
  have hB:gZ (aG l)=true:=by unfold gZ;rw[HU (by omega)];rfl
  exact en (.inl rfl) rfl (gI (.cons (aO _) (.cons (aO _) (.cons (aO _) .nil)))) (by decide) (fun _=>⟨trivial,trivial,trivial,trivial⟩) (by unfold sS sT vU;rw[hB];rfl)
 (iterate 3 refine o1 ?_);refine WL.split (t:=25) rfl (fun h4=>?_) (fun h4=>?_)
 ·refine o1 ?_;refine o1 ?_;refine o1 ?_ (hC:=(by rw[aF];omega))
  refine WL.cast (t:=28) (u':=.int .u8 (((nth l (fT l)):Nat):Int)) rfl (congrArg (fun n:Nat=>Value.int .u8 (n:Int)) (eM (i:=fT l) (by omega) (dR hl (by omega)))) ?_
  (iterate 3 refine o1 ?_);refine nl ?_;refine bR rfl (fun h5=>?_) (fun h5=>?_)
  ·refine sq ?_;refine rl ?_;(iterate 3 refine o1 ?_);refine nl ?_;refine rt ?_;have hB:gZ (aG l)=true:=by unfold gZ;rw[HU (by omega)];rfl
   exact en (.inl rfl) rfl (gI (.cons (aO _) (.cons (aO _) (.cons (aO _) .nil)))) (by decide) (fun _=>⟨trivial,trivial,trivial,trivial⟩) (by unfold sS sT vU;rw[hB];rfl)
  refine sk ?_;refine sq ?_;have hb1:b1 (aG l)=false:=HV (by omega)
  refine rl ?_;(iterate 3 refine o1 ?_);refine WL.cast (t:=34) (u':=.int .i64 (((fT l)+((wh (aG l)).length):Nat):Int)) rfl (aI (by omega)) ?_
  refine o1 ?_;refine nl ?_;refine sq ?_;refine rl ?_;refine o1 ?_;refine nl ?_;refine sq ?_;refine sq ?_;refine rl ?_;(iterate 3 refine o1 ?_)
  refine WL.cast (t:=37) (u':=.int .i64 ((l.length:Nat):Int)) rfl (congrArg (fun n:Nat=>Value.int .i64 (n:Int)) (aF _)) ?_
  refine o1 ?_;refine o1 ?_;refine WL.split (t:=39) rfl (fun h6=>?_) (fun h6=>?_)
  ·refine o1 ?_;refine o1 ?_;refine o1 ?_ (hC:=(by rw[aF];omega))
   refine WL.cast (t:=42) (u':=.int .u8 (((nth l (fT l+(wh (aG l)).length)):Nat):Int)) rfl (congrArg (fun n:Nat=>Value.int .u8 (n:Int)) (eM (i:=fT l+(wh (aG l)).length) (by omega) (dR hl (by omega)))) ?_
   refine o1 ?_;refine o1 ?_;refine nl ?_;refine bR rfl (fun h7=>?_) (fun h7=>?_)
   ·refine sq ?_;have hp:=Yv (l:=l) (by omega) (by omega)
    have hpw:=Yw hp
    have hpwl:=congrArg List.length hpw
    have hly:=Yx hp
    refine rl ?_;(iterate 3 refine o1 ?_);refine WL.cast (t:=47) (u':=.int .i64 (((fT l)+((wh (aG l)).length)+1:Nat):Int)) rfl (aI (by omega)) ?_
    refine ca (wS (m:=iG (bX (aG l))) hl (Kb hp) (by omega) (by omega)) Nq ⟨a1 rfl,a1 rfl,rfl⟩ (.one (tv (.int .i64 (((wh (iG (bX (aG l)))).length:Nat):Int)))) ?_
    refine o1 ?_;refine nl ?_;refine sq ?_;refine sq ?_;refine rl ?_;refine o1 ?_;refine o1 ?_;refine nl ?_;refine bR rfl (fun h8=>?_) (fun h8=>?_)
    ·refine sq ?_;refine rl ?_;(iterate 3 refine o1 ?_);refine nl ?_;refine rt ?_
     have hB:gZ (aG l)=true:=by unfold gZ b2;rw[hp,←hpw,decide_eq_true (by omega),Bool.true_and,Bool.or_true]
     exact en (.inl rfl) rfl (gI (.cons (aO _) (.cons (aO _) (.cons (aO _) .nil)))) (by decide) (fun _=>⟨trivial,trivial,trivial,trivial⟩) (by unfold sS sT vU;rw[hB];rfl)
    refine sk ?_;refine rl ?_;refine o1 ?_;refine o1 ?_;refine WL.cast (t:=52) (u':=.int .i64 (((fT l)+((wh (aG l)).length)+1:Nat):Int)) rfl (aI (by omega)) ?_
    refine o1 ?_;refine o1 ?_;refine WL.cast (t:=54) (u':=.int .i64 (((fT l)+((wh (aG l)).length)+1+((wh (iG (bX (aG l)))).length):Nat):Int)) rfl (aI (by omega)) ?_
    refine o1 ?_;refine nl ?_;refine sq ?_;refine rl ?_;(iterate 5 refine o1 ?_)
    refine WL.cast (t:=59) (u':=.int .i64 ((l.length:Nat):Int)) rfl (congrArg (fun n:Nat=>Value.int .i64 (n:Int)) (aF _)) ?_
    (iterate 4 refine o1 ?_);refine nl ?_;refine rt ?_;have hB:gZ (aG l)=false:=by unfold gZ b2;rw[hb1,hp,←hpw,decide_eq_false (by omega)];rfl
    have hq9:=congrArg List.length hpw
    exact en (.inl rfl) rfl (gI (.cons (aO _) (.cons (aO _) (.cons (aO _) .nil)))) (by decide) (fun _=>⟨trivial,trivial,trivial,trivial⟩) (Ka hB rfl (congrArg List.length hpw) (decide_eq_decide.2 (by rw[Kc];omega)))
   refine sk ?_;refine sq ?_;refine rl ?_;(iterate 5 refine o1 ?_)
   refine WL.cast (t:=59) (u':=.int .i64 ((l.length:Nat):Int)) rfl (congrArg (fun n:Nat=>Value.int .i64 (n:Int)) (aF _)) ?_
   (iterate 4 refine o1 ?_);refine nl ?_;refine rt ?_;have hp:=Di (l:=l) (by omega)
   have hpl:=mF hp
   have hln:=Dj hp
   have hB:gZ (aG l)=false:=by unfold gZ b2;rw[hb1,hp];rfl
   exact en (.inl rfl) rfl (gI (.cons (aO _) (.cons (aO _) (.cons (aO _) .nil)))) (by decide) (fun _=>⟨trivial,trivial,trivial,trivial⟩) (Ka hB rfl (by rw[hpl];rfl) (decide_eq_decide.2 (by rw[Kc];omega)))
  (iterate 4 refine cH ?_);refine o1 ?_;refine nl ?_;refine fW rfl ?_;refine sk ?_;refine sq ?_;refine rl ?_;(iterate 5 refine o1 ?_)
  refine WL.cast (t:=59) (u':=.int .i64 ((l.length:Nat):Int)) rfl (congrArg (fun n:Nat=>Value.int .i64 (n:Int)) (aF _)) ?_
  (iterate 4 refine o1 ?_);refine nl ?_;refine rt ?_;have hp:=Di (l:=l) (by omega)
  have hpl:=mF hp
  have hln:=Dj hp
  have hB:gZ (aG l)=false:=by unfold gZ b2;rw[hb1,hp];rfl
  exact en (.inl rfl) rfl (gI (.cons (aO _) (.cons (aO _) (.cons (aO _) .nil)))) (by decide) (fun _=>⟨trivial,trivial,trivial,trivial⟩) (Ka hB rfl (by rw[hpl];rfl) (decide_eq_decide.2 (by rw[Kc];omega)))
 (iterate 4 refine cH ?_);refine o1 ?_;refine o1 ?_;refine nl ?_;refine fW rfl ?_;refine sk ?_;refine sq ?_;have hb1:b1 (aG l)=false:=HV (by omega)
 refine rl ?_;(iterate 3 refine o1 ?_);refine WL.cast (t:=34) (u':=.int .i64 (((fT l)+((wh (aG l)).length):Nat):Int)) rfl (aI (by omega)) ?_
 refine o1 ?_;refine nl ?_;refine sq ?_;refine rl ?_;refine o1 ?_;refine nl ?_;refine sq ?_;refine sq ?_;refine rl ?_;(iterate 3 refine o1 ?_)
 refine WL.cast (t:=37) (u':=.int .i64 ((l.length:Nat):Int)) rfl (congrArg (fun n:Nat=>Value.int .i64 (n:Int)) (aF _)) ?_
 refine o1 ?_;refine o1 ?_;refine WL.split (t:=39) rfl (fun h9=>?_) (fun h9=>?_)
 ·refine o1 ?_;refine o1 ?_;refine o1 ?_ (hC:=(by rw[aF];omega))
  refine WL.cast (t:=42) (u':=.int .u8 (((nth l (fT l+(wh (aG l)).length)):Nat):Int)) rfl (congrArg (fun n:Nat=>Value.int .u8 (n:Int)) (eM (i:=fT l+(wh (aG l)).length) (by omega) (dR hl (by omega)))) ?_
  refine o1 ?_;refine o1 ?_;refine nl ?_;refine bR rfl (fun h10=>?_) (fun h10=>?_)
  ·refine sq ?_;have hp:=Yv (l:=l) (by omega) (by omega)
   have hpw:=Yw hp
   have hpwl:=congrArg List.length hpw
   have hly:=Yx hp
   refine rl ?_;(iterate 3 refine o1 ?_);refine WL.cast (t:=47) (u':=.int .i64 (((fT l)+((wh (aG l)).length)+1:Nat):Int)) rfl (aI (by omega)) ?_
   refine ca (wS (m:=iG (bX (aG l))) hl (Kb hp) (by omega) (by omega)) Nq ⟨a1 rfl,a1 rfl,rfl⟩ (.one (tv (.int .i64 (((wh (iG (bX (aG l)))).length:Nat):Int)))) ?_
   refine o1 ?_;refine nl ?_;refine sq ?_;refine sq ?_;refine rl ?_;refine o1 ?_;refine o1 ?_;refine nl ?_;refine bR rfl (fun h11=>?_) (fun h11=>?_)
   ·refine sq ?_;refine rl ?_;(iterate 3 refine o1 ?_);refine nl ?_;refine rt ?_
    have hB:gZ (aG l)=true:=by unfold gZ b2;rw[hp,←hpw,decide_eq_true (by omega),Bool.true_and,Bool.or_true]
    exact en (.inl rfl) rfl (gI (.cons (aO _) (.cons (aO _) (.cons (aO _) .nil)))) (by decide) (fun _=>⟨trivial,trivial,trivial,trivial⟩) (by unfold sS sT vU;rw[hB];rfl)
   refine sk ?_;refine rl ?_;refine o1 ?_;refine o1 ?_;refine WL.cast (t:=52) (u':=.int .i64 (((fT l)+((wh (aG l)).length)+1:Nat):Int)) rfl (aI (by omega)) ?_
   refine o1 ?_;refine o1 ?_;refine WL.cast (t:=54) (u':=.int .i64 (((fT l)+((wh (aG l)).length)+1+((wh (iG (bX (aG l)))).length):Nat):Int)) rfl (aI (by omega)) ?_
   refine o1 ?_;refine nl ?_;refine sq ?_;refine rl ?_;(iterate 5 refine o1 ?_)
   refine WL.cast (t:=59) (u':=.int .i64 ((l.length:Nat):Int)) rfl (congrArg (fun n:Nat=>Value.int .i64 (n:Int)) (aF _)) ?_
   (iterate 4 refine o1 ?_);refine nl ?_;refine rt ?_;have hB:gZ (aG l)=false:=by unfold gZ b2;rw[hb1,hp,←hpw,decide_eq_false (by omega)];rfl
   have hq9:=congrArg List.length hpw
   exact en (.inl rfl) rfl (gI (.cons (aO _) (.cons (aO _) (.cons (aO _) .nil)))) (by decide) (fun _=>⟨trivial,trivial,trivial,trivial⟩) (Ka hB rfl (congrArg List.length hpw) (decide_eq_decide.2 (by rw[Kc];omega)))
  refine sk ?_;refine sq ?_;refine rl ?_;(iterate 5 refine o1 ?_)
  refine WL.cast (t:=59) (u':=.int .i64 ((l.length:Nat):Int)) rfl (congrArg (fun n:Nat=>Value.int .i64 (n:Int)) (aF _)) ?_
  (iterate 4 refine o1 ?_);refine nl ?_;refine rt ?_;have hp:=Di (l:=l) (by omega)
  have hpl:=mF hp
  have hln:=Dj hp
  have hB:gZ (aG l)=false:=by unfold gZ b2;rw[hb1,hp];rfl
  exact en (.inl rfl) rfl (gI (.cons (aO _) (.cons (aO _) (.cons (aO _) .nil)))) (by decide) (fun _=>⟨trivial,trivial,trivial,trivial⟩) (Ka hB rfl (by rw[hpl];rfl) (decide_eq_decide.2 (by rw[Kc];omega)))
 (iterate 4 refine cH ?_);refine o1 ?_;refine nl ?_;refine fW rfl ?_;refine sk ?_;refine sq ?_;refine rl ?_;(iterate 5 refine o1 ?_)
 refine WL.cast (t:=59) (u':=.int .i64 ((l.length:Nat):Int)) rfl (congrArg (fun n:Nat=>Value.int .i64 (n:Int)) (aF _)) ?_
 (iterate 4 refine o1 ?_);refine nl ?_;refine rt ?_;have hp:=Di (l:=l) (by omega)
 have hpl:=mF hp
 have hln:=Dj hp
 have hB:gZ (aG l)=false:=by unfold gZ b2;rw[hb1,hp];rfl
 exact en (.inl rfl) rfl (gI (.cons (aO _) (.cons (aO _) (.cons (aO _) .nil)))) (by decide) (fun _=>⟨trivial,trivial,trivial,trivial⟩) (Ka hB rfl (by rw[hpl];rfl) (decide_eq_decide.2 (by rw[Kc];omega)))
theorem MU:((1:Int):Rat)=((10^0:Nat):Rat):=rfl
theorem MV (k:Nat):((10^k:Nat):Rat)*((10:Int):Rat)=((10^(k+1):Nat):Rat):=by
 rw[Nat.pow_succ,Rat.natCast_mul]
 rfl
theorem Nr {c:Nat}(hc:c≤1000000):aE false Tryz.prog 45 [] [.one (tv (.int .i64 ((c:Nat):Int)))] (aN (qF (.of ((10^c:Nat):Rat)))):=by
 refine bF Tryz.func45 rfl Tryz.ntmps45 rfl aA rfl fun N9 w9 c0 h0=>?_
 refine sq ?_;refine rl ?_;refine al 0 ?_;refine nl ?_;refine sq ?_;refine rl ?_;refine ca (iC (n:=1) (by omega) (by omega)) rQ ⟨a1 rfl,rfl⟩ (qF (.of ((1:Int):Rat))) ?_
 refine al 1 ?_;refine st ?_;refine nl ?_;refine sq ?_;refine sq ?_;refine rl ?_;refine o1 ?_;refine nl ?_;refine bl ?_
 refine lp (γ:=Nat) (fun s=>cE [(0,.one (tv (.int .i64 ((c:Nat):Int)))),(2,.one (.pt 0 0)),(3,.one (.pt 1 0)),(4,.one (tv (.int .i64 ((s:Nat):Int))))]) (fun s=>[(⟨33,0,[tv (.bool false),tv (.slice none 0 0),tv (.bool false),tv (.slice none 0 0)]⟩:Ob),⟨33,0,((Fr4.of ((10^s:Nat):Rat)).tr false).map .t⟩].map some) (fun s=>s≤c) (fun s=>c-s) 0 (Nat.zero_le _) (aQ h0 [0,1] _ _ (by decide) ⟨rfl,rfl,rfl,rfl,trivial⟩ ⟨oe rfl rfl,cV (congrArg (fun q=>some (⟨33,0,((Fr4.of q).tr false).map .t⟩:Ob)) MU),rfl⟩) ?_
 rintro k hk;refine sq ?_;refine sq ?_;refine rl ?_;(iterate 3 refine o1 ?_);refine nl ?_;refine bR rfl (fun h1=>?_) (fun h1=>?_)
 ·refine sk ?_;refine sq ?_;refine bl ?_;refine rd [0,1] (fun i=>[2,3].contains i) mixed ?_
  refine aW 0 ?_;refine aJ 1 rfl (iC (n:=10) (by omega) (by omega)) rQ ⟨a1 rfl,rfl⟩ (qF (.of ((10:Int):Rat))) ?_
  refine aJ 2 rfl (yI (Qn.of (p:=((10^k:Nat):Rat)) ((eX k).mono (M:=68719476736) (by omega))) (Qn.of (p:=((10:Int):Rat)) (cB (by omega) (by omega))) ((eX k).mono (M:=17179869184) (by omega)) ((cB (by omega) (by omega)).mono (M:=17179869184) (by omega))) Ns ⟨aB rfl,aB rfl,rfl⟩ (qF (.of (((10^k:Nat):Rat)*((10:Int):Rat)))) ?_
  refine dst 3 ?_;refine aU ?_;refine rl ?_;refine o1 ?_;refine o1 ?_;refine WL.cast (t:=10) (u':=.int .i64 ((k+1:Nat):Int)) rfl (aI (by omega)) ?_
  refine o1 ?_;refine nl ?_
  exact⟨k+1,by omega,by omega,aQ h0 [0,1] _ _ (by decide) ⟨rfl,rfl,rfl,rfl,trivial⟩ ⟨oe rfl rfl,cV (congrArg (fun q=>some (⟨33,0,((Fr4.of q).tr false).map .t⟩:Ob)) (MV k)),rfl⟩⟩
 refine ex ?_;refine sq ?_;refine rl ?_;refine ld ?_;refine st ?_;refine nl ?_;refine rt ?_
 exact en (.inl rfl) rfl (aV (.agg (.cons (.id rfl) (.cons (.id rfl) (.cons (.id rfl) (.cons (.id rfl) .nil)))))) (by decide) (fun h=>by cases h) (by rw[show k=c by omega];rfl)
theorem RB:(0:Rat)=((sD (([]:List Nat)):Nat):Rat):=rfl
theorem BX {L n:Nat}(h:(dg 4294967296 n).length≤L+1):Sz (L+1) ((n:Nat):Rat):=by
 refine⟨?_,?_⟩
 ·rw[Rat.num_natCast,Int.natAbs_natCast]
  exact h
 rw[Rat.den_natCast]
 exact Nat.le_trans (show(dg 4294967296 1).length≤1 by decide) (by omega)
theorem HZ {u v d:Nat}(h:v=u*10+d):((u:Nat):Rat)*((10:Int):Rat)+(((d:Nat):Int):Rat)=((v:Nat):Rat):=by
 rw[h,Rat.natCast_add,Rat.natCast_mul]
 rfl
theorem IA {l:List Nat}(hl:Lim 256 l) (hn9:l.length≤1000000) (hf:fY (aG l)=true):aE false Tryz.prog 78 [] [.one (tv (.string (aC l)))] (aN (qF (.of (sR l)))):=by
 refine bF Tryz.func78 rfl Tryz.ntmps78 rfl aA rfl fun N9 w9 c0 h0=>?_
 have hb:=Ri hf
 have hpos:=Kd hf
 have hwp:=tM (aG l)
 have hal:=qK l
 refine sq ?_;refine rl ?_;refine al 0 ?_;refine nl ?_;refine sq ?_;refine rl ?_;refine ca (gK) mZ rfl (qF (.of 0)) ?_;refine al 1 ?_;refine st ?_;refine nl ?_;refine sq ?_
 refine rl ?_;refine o1 ?_;refine nl ?_;refine sq ?_;refine sq ?_;refine rl ?_;refine o1 ?_;refine nl ?_;refine bl ?_
 refine lp (γ:=Nat) (fun s=>cE [(0,.one (tv (.string (aC l)))),(2,.one (.pt 0 0)),(3,.one (.pt 1 0)),(4,.one (tv (.int .i64 (sP (l.take s))))),(5,.one (tv (.int .i64 ((s:Nat):Int))))]) (fun s=>[(⟨33,0,[tv (.bool false),tv (.slice none 0 0),tv (.bool false),tv (.slice none 0 0)]⟩:Ob),⟨33,0,((Fr4.of ((sD (l.take s):Nat):Rat)).tr false).map .t⟩].map some) (fun s=>s≤l.length) (fun s=>l.length-s) 0 (Nat.zero_le _) (aQ h0 [0,1] _ _ (by decide) ⟨rfl,rfl,rfl,nE rfl,rfl,trivial⟩ ⟨oe rfl rfl,cV (congrArg (fun q=>some (⟨33,0,((Fr4.of q).tr false).map .t⟩:Ob)) RB),rfl⟩) ?_
 rintro k hk
 have hsd:Sz (k+2) ((sD (l.take k):Nat):Rat):=BX (bN (by omega) (Nat.lt_of_lt_of_le (MW hk hb) (Nat.le_trans (Nat.pow_le_pow_left (show 10≤4294967296 by omega) k) (Nat.pow_le_pow_right (by omega) (by omega)))))
 have hspl:=MX (l:=l) hk
 refine sq ?_;refine sq ?_;refine rl ?_;(iterate 3 refine o1 ?_)
 refine WL.cast (t:=9) (u':=.int .i64 ((l.length:Nat):Int)) rfl (congrArg (fun n:Nat=>Value.int .i64 (n:Int)) (aF _)) ?_
 refine o1 ?_;refine nl ?_;refine bR rfl (fun h1=>?_) (fun h1=>?_)
 ·refine sk ?_;refine sq ?_;refine bl ?_;refine bl ?_;refine sq ?_;refine rl ?_;refine o1 ?_;refine o1 ?_;refine o1 ?_ (hC:=(by rw[aF];omega))
  refine WL.cast (t:=16) (u':=.int .u8 (((nth l (k)):Nat):Int)) rfl (congrArg (fun n:Nat=>Value.int .u8 (n:Int)) (eM (i:=k) (by omega) (dR hl (by omega)))) ?_
  refine o1 ?_;refine o1 ?_;refine nl ?_;refine bR rfl (fun h2=>?_) (fun h2=>?_)
  ·refine rl ?_;refine o1 ?_;refine nl ?_;refine rl ?_;refine o1 ?_;refine o1 ?_;refine WL.cast (t:=12) (u':=.int .i64 ((k+1:Nat):Int)) rfl (aI (by omega)) ?_
   refine o1 ?_;refine nl ?_;have hsd1:=Fs (l:=l) (k:=k) (by omega)
   have hsp1:=Ft (l:=l) (k:=k) (by omega)
   rw[if_pos (by omega)]at hsd1 hsp1
   exact⟨k+1,by omega,by omega,aQ h0 [0,1] _ _ (by decide) ⟨rfl,rfl,rfl,nE (by rw[hsp1]),rfl,trivial⟩ ⟨oe rfl rfl,cV (congrArg (fun q=>some (⟨33,0,((Fr4.of q).tr false).map .t⟩:Ob)) (congrArg (fun n:Nat=>(n:Rat)) hsd1.symm)),rfl⟩⟩
  refine sq ?_;refine rl ?_;refine o1 ?_;refine o1 ?_;refine o1 ?_ (hC:=(by rw[aF];omega))
  refine WL.cast (t:=21) (u':=.int .u8 (((nth l (k)):Nat):Int)) rfl (congrArg (fun n:Nat=>Value.int .u8 (n:Int)) (eM (i:=k) (by omega) (dR hl (by omega)))) ?_
  refine o1 ?_;refine o1 ?_;refine nl ?_;refine bR rfl (fun h3=>?_) (fun h3=>?_)
  ·refine sq ?_;have hck:=hb _ (Yy (l:=l) (k:=k) (by omega))
   refine rd [0,1] (fun i=>[10].contains i) mixed ?_
   refine aW 0 ?_;refine dv 3 ?_;refine dv 4 ?_;refine dv 5 ?_ (hC:=(by rw[aF];omega))
   refine WD.cast (t:=28) (u':=.int .u8 (((nth l (k)):Nat):Int)) rfl (congrArg (fun n:Nat=>Value.int .u8 (n:Int)) (eM (i:=k) (by omega) (dR hl (by omega)))) ?_
   refine dv 6 ?_;refine WD.cast (t:=29) (u':=.int .u8 (((nth l (k))-48:Nat):Int)) rfl (aI (by omega)) ?_
   refine dv 7 ?_;refine WD.cast (t:=30) (u':=.int .i64 (((nth l (k))-48:Nat):Int)) rfl (aI (by omega)) ?_
   refine aJ 1 rfl (iC (n:=10) (by omega) (by omega)) rQ ⟨a1 rfl,rfl⟩ (qF (.of ((10:Int):Rat))) ?_
   refine aJ 2 rfl (yI (Qn.of (p:=((sD (l.take k):Nat):Rat)) (hsd.mono (M:=68719476736) (by omega))) (Qn.of (p:=((10:Int):Rat)) ((cB (by omega) (by omega)).mono (M:=68719476736) (by omega))) (hsd.mono (M:=17179869184) (by omega)) ((cB (by omega) (by omega)).mono (M:=17179869184) (by omega))) Ns ⟨aB rfl,aB rfl,rfl⟩ (qF (.of (((sD (l.take k):Nat):Rat)*((10:Int):Rat)))) ?_
   refine aJ 8 rfl (iC (n:=(((nth l (k))-48:Nat):Int)) (by omega) (by omega)) rQ ⟨a1 rfl,rfl⟩ (qF (.of ((((nth l (k))-48:Nat):Int):Rat))) ?_
   refine aJ 9 rfl (Re (Qn.of (p:=(((sD (l.take k):Nat):Rat)*((10:Int):Rat))) ((jR hsd (cB (by omega) (by omega))).mono (M:=68719476736) (by omega))) (Qn.of (p:=((((nth l (k))-48:Nat):Int):Rat)) ((cB (by omega) (by omega)).mono (M:=68719476736) (by omega))) ((jR hsd (cB (by omega) (by omega))).mono (M:=17179869184) (by omega)) ((cB (by omega) (by omega)).mono (M:=17179869184) (by omega))) Yt ⟨aB rfl,aB rfl,rfl⟩ (qF (.of ((((sD (l.take k):Nat):Rat)*((10:Int):Rat))+((((nth l (k))-48:Nat):Int):Rat)))) ?_
   refine dst 10 ?_;refine aU ?_;refine sq ?_;refine rl ?_;refine o1 ?_;refine o1 ?_;refine nl ?_;refine bR rfl (fun h4=>?_) (fun h4=>?_)
   ·refine rl ?_;refine o1 ?_;refine o1 ?_;refine WL.cast (t:=36) (u':=.int .i64 ((sP (l.take k)+1))) rfl (aI (by rfl)) ?_
    refine o1 ?_;refine nl ?_;refine rl ?_;refine o1 ?_;refine o1 ?_;refine WL.cast (t:=12) (u':=.int .i64 ((k+1:Nat):Int)) rfl (aI (by omega)) ?_
    refine o1 ?_;refine nl ?_;have hsd1:=Fs (l:=l) (k:=k) (by omega)
    have hsp1:=Ft (l:=l) (k:=k) (by omega)
    rw[if_neg (by omega),if_neg (by omega)]at hsd1 hsp1
    rw[if_pos (by omega)]at hsp1
    exact⟨k+1,by omega,by omega,aQ h0 [0,1] _ _ (by decide) ⟨rfl,rfl,rfl,nE hsp1,rfl,trivial⟩ ⟨oe rfl rfl,cV (congrArg (fun q=>some (⟨33,0,((Fr4.of q).tr false).map .t⟩:Ob)) (HZ hsd1)),rfl⟩⟩
   refine sk ?_;refine rl ?_;refine o1 ?_;refine o1 ?_;refine WL.cast (t:=12) (u':=.int .i64 ((k+1:Nat):Int)) rfl (aI (by omega)) ?_
   refine o1 ?_;refine nl ?_;have hsd1:=Fs (l:=l) (k:=k) (by omega)
   have hsp1:=Ft (l:=l) (k:=k) (by omega)
   rw[if_neg (by omega),if_neg (by omega)]at hsd1 hsp1
   rw[if_neg (by omega)]at hsp1
   exact⟨k+1,by omega,by omega,aQ h0 [0,1] _ _ (by decide) ⟨rfl,rfl,rfl,nE hsp1,rfl,trivial⟩ ⟨oe rfl rfl,cV (congrArg (fun q=>some (⟨33,0,((Fr4.of q).tr false).map .t⟩:Ob)) (HZ hsd1)),rfl⟩⟩
  refine sk ?_;refine rl ?_;refine o1 ?_;refine o1 ?_;refine WL.cast (t:=12) (u':=.int .i64 ((k+1:Nat):Int)) rfl (aI (by omega)) ?_
  refine o1 ?_;refine nl ?_;have hsd1:=Fs (l:=l) (k:=k) (by omega)
  have hsp1:=Ft (l:=l) (k:=k) (by omega)
  rw[if_neg (by omega),if_pos (by omega)]at hsd1 hsp1
  exact⟨k+1,by omega,by omega,aQ h0 [0,1] _ _ (by decide) ⟨rfl,rfl,rfl,nE hsp1,rfl,trivial⟩ ⟨oe rfl rfl,cV (congrArg (fun q=>some (⟨33,0,((Fr4.of q).tr false).map .t⟩:Ob)) (congrArg (fun n:Nat=>(n:Rat)) hsd1.symm)),rfl⟩⟩
 refine ex ?_;refine sq ?_;have hkk:k=l.length:=by omega
 have htk:l.take k=l:=List.take_of_length_le (by omega)
 have hsl:Sz (k+2) ((sD l:Nat):Rat):=by rw[htk]at hsd;exact hsd
 have hmx:=MY hf
 refine WP.sub (aQ h0 [0,1] [(0,.one (tv (.string (aC l)))),(2,.one (.pt 0 0)),(3,.one (.pt 1 0)),(4,.one (tv (.int .i64 (sP l))))] [⟨33,0,[tv (.bool false),tv (.slice none 0 0),tv (.bool false),tv (.slice none 0 0)]⟩,⟨33,0,((Fr4.of ((sD l:Nat):Rat)).tr false).map .t⟩] (by decide) ⟨rfl,rfl,rfl,nE (by rw[htk]),trivial⟩ ⟨oe rfl rfl,cV (congrArg (fun t:List Nat=>some (⟨33,0,((Fr4.of ((sD t:Nat):Rat)).tr false).map .t⟩:Ob)) htk),rfl⟩) ?_
 refine rd [0] (fun i=>[].contains i) mixed ?_
 refine dv 1 ?_;refine dv 2 ?_;refine WD.cast (t:=40) (u':=.int .i64 (((pl (aG l)).length:Nat):Int)) rfl (aI hmx) ?_;refine WO.two (i:=0) (j:=3) (by kernel_rfl) ?_ ?_
 ·refine eO 0 ?_;refine aJ 3 rfl (Nr (c:=(pl (aG l)).length) (by omega)) Vs ⟨a1 rfl,rfl⟩ (qF (.of ((10^(pl (aG l)).length:Nat):Rat))) ?_
  refine aJ 4 rfl (yK (Qn.of (p:=((sD l:Nat):Rat)) (hsl.mono (M:=68719476736) (by omega))) (Qn.of (p:=((10^(pl (aG l)).length:Nat):Rat)) ((eX _).mono (M:=68719476736) (by omega))) (hsl.mono (M:=17179869184) (by omega)) ((eX _).mono (M:=17179869184) (by omega))) Fu ⟨aB rfl,aB rfl,rfl⟩ (.tup [qF (.of (((sD l:Nat):Rat)/((10^(pl (aG l)).length:Nat):Rat))),.one (tv (.int .i64 (if((10^(pl (aG l)).length:Nat):Rat)=0 then 20 else 0)))]) ?_
  refine df 5 ?_;refine df 6 ?_;refine df 7 ?_;refine aS 8 (by kernel_rfl) rfl rfl aA rfl rfl rfl rfl ⟨rfl,trivial⟩ ?_
  refine aU ?_;refine sq ?_;refine sq ?_;refine rl ?_;refine o1 ?_;refine o1 ?_ (hC:=(by rw[aF];show 0<l.length;omega))
  refine WL.cast (t:=46) (u':=.int .u8 (((nth l (0)):Nat):Int)) rfl (congrArg (fun n:Nat=>Value.int .u8 (n:Int)) (eM (i:=0) (by omega) (dR hl (by omega)))) ?_
  refine o1 ?_;refine nl ?_;refine bR rfl (fun h5=>?_) (fun h5=>?_)
  ·refine rl ?_;refine ld ?_
   refine ca (yH (Qn.of (p:=(((sD l:Nat):Rat)/((10^(pl (aG l)).length:Nat):Rat))) ((Ex hsl (eX _)).mono (M:=68719476736) (by omega)))) Np ⟨aB rfl,rfl⟩ (qF (.of (-(((sD l:Nat):Rat)/((10^(pl (aG l)).length:Nat):Rat))))) ?_
   refine st ?_;refine nl ?_;refine sq ?_;refine rl ?_;refine ld ?_;refine st ?_;refine nl ?_;refine rt ?_;have hng:dD l=true:=by rw[←tS hpos];exact decide_eq_true (by omega)
   have hq9:=yM hf
   rw[hng]at hq9;exact en (.inl rfl) rfl (aV (.agg (.cons (.id rfl) (.cons (.id rfl) (.cons (.id rfl) (.cons (.id rfl) .nil)))))) (by decide) (fun h=>by cases h) (by rw[←hq9];rfl)
  refine sk ?_;refine sq ?_;refine rl ?_;refine ld ?_;refine st ?_;refine nl ?_;refine rt ?_;have hng:dD l=false:=by rw[←tS hpos];exact decide_eq_false (by omega)
  have hq9:=yM hf
  rw[hng]at hq9;exact en (.inl rfl) rfl (aV (.agg (.cons (.id rfl) (.cons (.id rfl) (.cons (.id rfl) (.cons (.id rfl) .nil)))))) (by decide) (fun h=>by cases h) (by rw[←hq9];rfl)
 refine cU 3 rfl (Nr (c:=(pl (aG l)).length) (by omega)) Vs ⟨a1 rfl,rfl⟩ (qF (.of ((10^(pl (aG l)).length:Nat):Rat))) ?_
 refine WO.one (by kernel_rfl) (eO 0 ?_)
 refine aJ 4 rfl (yK (Qn.of (p:=((sD l:Nat):Rat)) (hsl.mono (M:=68719476736) (by omega))) (Qn.of (p:=((10^(pl (aG l)).length:Nat):Rat)) ((eX _).mono (M:=68719476736) (by omega))) (hsl.mono (M:=17179869184) (by omega)) ((eX _).mono (M:=17179869184) (by omega))) Fu ⟨aB rfl,aB rfl,rfl⟩ (.tup [qF (.of (((sD l:Nat):Rat)/((10^(pl (aG l)).length:Nat):Rat))),.one (tv (.int .i64 (if((10^(pl (aG l)).length:Nat):Rat)=0 then 20 else 0)))]) ?_
 refine df 5 ?_;refine df 6 ?_;refine df 7 ?_;refine aS 8 (by kernel_rfl) rfl rfl aA rfl rfl rfl rfl ⟨rfl,trivial⟩ ?_
 refine aU ?_;refine sq ?_;refine sq ?_;refine rl ?_;refine o1 ?_;refine o1 ?_ (hC:=(by rw[aF];show 0<l.length;omega))
 refine WL.cast (t:=46) (u':=.int .u8 (((nth l (0)):Nat):Int)) rfl (congrArg (fun n:Nat=>Value.int .u8 (n:Int)) (eM (i:=0) (by omega) (dR hl (by omega)))) ?_
 refine o1 ?_;refine nl ?_;refine bR rfl (fun h6=>?_) (fun h6=>?_)
 ·refine rl ?_;refine ld ?_
  refine ca (yH (Qn.of (p:=(((sD l:Nat):Rat)/((10^(pl (aG l)).length:Nat):Rat))) ((Ex hsl (eX _)).mono (M:=68719476736) (by omega)))) Np ⟨aB rfl,rfl⟩ (qF (.of (-(((sD l:Nat):Rat)/((10^(pl (aG l)).length:Nat):Rat))))) ?_
  refine st ?_;refine nl ?_;refine sq ?_;refine rl ?_;refine ld ?_;refine st ?_;refine nl ?_;refine rt ?_;have hng:dD l=true:=by rw[←tS hpos];exact decide_eq_true (by omega)
  have hq9:=yM hf
  rw[hng]at hq9;exact en (.inl rfl) rfl (aV (.agg (.cons (.id rfl) (.cons (.id rfl) (.cons (.id rfl) (.cons (.id rfl) .nil)))))) (by decide) (fun h=>by cases h) (by rw[←hq9];rfl)
 refine sk ?_;refine sq ?_;refine rl ?_;refine ld ?_;refine st ?_;refine nl ?_;refine rt ?_;have hng:dD l=false:=by rw[←tS hpos];exact decide_eq_false (by omega)
 have hq9:=yM hf
 rw[hng]at hq9;exact en (.inl rfl) rfl (aV (.agg (.cons (.id rfl) (.cons (.id rfl) (.cons (.id rfl) (.cons (.id rfl) .nil)))))) (by decide) (fun h=>by cases h) (by rw[←hq9];rfl)
theorem RC {l:List Nat}(h:fY (aG l)=false):gO l=false:=by unfold gO;rw[h];rfl
theorem RD {l:List Nat}(h:(dD l&&tN (aG l))=true):gO l=false:=by unfold gO;rw[h,Bool.not_true,Bool.and_false]
theorem IB {l:List Nat}(h1:fY (aG l)=true) (h:(dD l&&tN (aG l))=false):gO l=true:=by unfold gO;rw[h1,h];rfl
theorem BY {l:List Nat}{m:Nat}(hl:Lim 256 l) (hn9:l.length≤1000000):aE false Tryz.prog 33 [] [.one (tv (.string (aC l))),.one (tv (.int .i64 ((m:Nat):Int)))] (aN (.tup [qF (.of (dE l m)),.one (tv (.int .i64 (fB l m)))])):=by
 refine bF Tryz.func33 rfl Tryz.ntmps33 rfl aA rfl fun N9 w9 c0 h0=>?_
 refine sq ?_;refine rl ?_;refine al 0 ?_;refine o1 ?_;refine nl ?_;refine sq ?_;refine rl ?_;refine o1 ?_
 refine ca (HW hl hn9) RE ⟨a1 rfl,rfl⟩ (.tup [.one (tv (.int .i64 ((sS l:Nat):Int))),.one (tv (.int .i64 ((sT l:Nat):Int))),.one (tv (.bool (vU l)))]) ?_;(iterate 7 refine o1 ?_)
 refine nl ?_;refine sq ?_;refine sq ?_;refine rl ?_;refine o1 ?_;refine WL.splitb (t:=17) rfl (fun h1=>?_) (fun h1=>?_)
 ·(iterate 6 refine o1 ?_);refine nl ?_;refine bR rfl (fun h2=>?_) (fun h2=>?_)
  ·refine sq ?_;refine rl ?_;refine ca (gK) mZ rfl (qF (.of 0)) ?_;refine st ?_;refine o1 ?_;refine nl ?_;refine rt ?_
   have he:fB l m=60:=yB (.inr (by have h8:fY (aG l)=true:=(by rw[←Ac];exact h1);have h9:=(Yz h8).2;omega))
   have hq:dE l m=0:=(if_neg (by rw[he];decide))
   exact en (.inl rfl) rfl (dB (.cons (.agg (.cons (.id rfl) (.cons (.id rfl) (.cons (.id rfl) (.cons (.id rfl) .nil))))) (.cons (aO _) .nil))) (by decide) (fun h=>by cases h) (by rw[he,hq];rfl)
  refine sk ?_;refine sq ?_;have hf:fY (aG l)=true:=by rw[←Ac];exact h1
  have hpos:=Kd hf
  obtain⟨hfn,hfk⟩:=Yz hf
  have hwp:=tM (aG l)
  have hal:=qK l
  refine rl ?_;refine o1 ?_;refine o1 ?_ (hC:=(by rw[aF];show 0<l.length;omega))
  refine WL.cast (t:=26) (u':=.int .u8 (((nth l (0)):Nat):Int)) rfl (congrArg (fun n:Nat=>Value.int .u8 (n:Int)) (eM (i:=0) (by omega) (dR hl (by omega)))) ?_
  refine o1 ?_;refine WL.cast (t:=27) (u':=.bool (dD l)) rfl (congrArg Value.bool ((tS hpos)▸(decide_eq_decide.2 (by omega)))) ?_
  refine o1 ?_;refine nl ?_;refine sq ?_;refine sq ?_;refine rl ?_;refine o1 ?_;refine nl ?_;refine bl ?_
  refine lp (γ:=Nat) (fun s=>cE [(0,.one (tv (.string (aC l)))),(4,.one (.pt 0 0)),(6,.one (tv (.int .i64 (((sS l):Nat):Int)))),(7,.one (tv (.int .i64 (((sT l):Nat):Int)))),(9,.one (tv (.bool (dD l&&(l.take s).all iU)))),(10,.one (tv (.int .i64 ((s:Nat):Int))))]) (fun s=>[(⟨33,0,[tv (.bool false),tv (.slice none 0 0),tv (.bool false),tv (.slice none 0 0)]⟩:Ob)].map some) (fun s=>s≤l.length) (fun s=>l.length-s) 0 (Nat.zero_le _) (aQ h0 [0] _ _ (by decide) ⟨rfl,rfl,rfl,rfl,Rj (by rw[List.take_zero];exact Bool.and_true _),rfl,trivial⟩ ⟨oe rfl rfl,rfl⟩) ?_
  rintro k hk;refine sq ?_;refine sq ?_;refine rl ?_;(iterate 3 refine o1 ?_)
  refine WL.cast (t:=30) (u':=.int .i64 ((l.length:Nat):Int)) rfl (congrArg (fun n:Nat=>Value.int .i64 (n:Int)) (aF _)) ?_
  refine o1 ?_;refine nl ?_;refine bR rfl (fun h3=>?_) (fun h3=>?_)
  ·refine sk ?_;refine sq ?_;refine bl ?_;refine rl ?_;refine o1 ?_;refine o1 ?_;refine WL.splitb (t:=35) rfl (fun h4=>?_) (fun h4=>?_)
   ·refine o1 ?_;refine o1 ?_;refine o1 ?_ (hC:=(by rw[aF];omega))
    refine WL.cast (t:=38) (u':=.int .u8 (((nth l (k)):Nat):Int)) rfl (congrArg (fun n:Nat=>Value.int .u8 (n:Int)) (eM (i:=k) (by omega) (dR hl (by omega)))) ?_
    refine o1 ?_;refine o1 ?_;refine WL.split (t:=40) rfl (fun h5=>?_) (fun h5=>?_)
    ·(iterate 4 refine cH ?_);refine o1 ?_;refine o1 ?_;(iterate 4 refine cH ?_);(iterate 3 refine o1 ?_);refine nl ?_;refine rl ?_;refine o1 ?_;refine o1 ?_
     refine WL.cast (t:=33) (u':=.int .i64 ((k+1:Nat):Int)) rfl (aI (by omega)) ?_
     refine o1 ?_;refine nl ?_;have hns:(dD l&&(l.take (k+1)).all iU)=((dD l&&(l.take k).all iU)&&iU (nth l k)):=by rw[Dk (by omega),Bool.and_assoc]
     exact⟨k+1,by omega,by omega,aQ h0 [0] _ _ (by decide) ⟨rfl,rfl,rfl,rfl,Rj (by rw[hns,h4,Bool.true_and];unfold iU;rw[Bool.eq_iff_iff];simp only[Bool.or_eq_true,decide_eq_true_eq,eq_self_iff_true,iff_true];omega),rfl,trivial⟩ ⟨oe rfl rfl,rfl⟩⟩
    refine o1 ?_;refine o1 ?_;refine o1 ?_ (hC:=(by rw[aF];omega))
    refine WL.cast (t:=43) (u':=.int .u8 (((nth l (k)):Nat):Int)) rfl (congrArg (fun n:Nat=>Value.int .u8 (n:Int)) (eM (i:=k) (by omega) (dR hl (by omega)))) ?_
    (iterate 3 refine o1 ?_);refine WL.split (t:=46) rfl (fun h6=>?_) (fun h6=>?_)
    ·(iterate 4 refine cH ?_);(iterate 3 refine o1 ?_);refine nl ?_;refine rl ?_;refine o1 ?_;refine o1 ?_
     refine WL.cast (t:=33) (u':=.int .i64 ((k+1:Nat):Int)) rfl (aI (by omega)) ?_
     refine o1 ?_;refine nl ?_;have hns:(dD l&&(l.take (k+1)).all iU)=((dD l&&(l.take k).all iU)&&iU (nth l k)):=by rw[Dk (by omega),Bool.and_assoc]
     exact⟨k+1,by omega,by omega,aQ h0 [0] _ _ (by decide) ⟨rfl,rfl,rfl,rfl,Rj (by rw[hns,h4,Bool.true_and];unfold iU;rw[Bool.eq_iff_iff];simp only[Bool.or_eq_true,decide_eq_true_eq,eq_self_iff_true,iff_true];omega),rfl,trivial⟩ ⟨oe rfl rfl,rfl⟩⟩
    refine o1 ?_;refine o1 ?_;refine o1 ?_ (hC:=(by rw[aF];omega))
    refine WL.cast (t:=49) (u':=.int .u8 (((nth l (k)):Nat):Int)) rfl (congrArg (fun n:Nat=>Value.int .u8 (n:Int)) (eM (i:=k) (by omega) (dR hl (by omega)))) ?_
    (iterate 4 refine o1 ?_);refine nl ?_;refine rl ?_;refine o1 ?_;refine o1 ?_;refine WL.cast (t:=33) (u':=.int .i64 ((k+1:Nat):Int)) rfl (aI (by omega)) ?_
    refine o1 ?_;refine nl ?_;have hns:(dD l&&(l.take (k+1)).all iU)=((dD l&&(l.take k).all iU)&&iU (nth l k)):=by rw[Dk (by omega),Bool.and_assoc]
    exact⟨k+1,by omega,by omega,aQ h0 [0] _ _ (by decide) ⟨rfl,rfl,rfl,rfl,Rj (by rw[hns,h4,Bool.true_and];unfold iU;rw[Bool.eq_iff_iff];simp only[Bool.or_eq_true,decide_eq_true_eq,eq_self_iff_true,iff_true];omega),rfl,trivial⟩ ⟨oe rfl rfl,rfl⟩⟩
   (iterate 16 refine cH ?_);refine o1 ?_;refine o1 ?_;refine nl ?_;refine rl ?_;refine o1 ?_;refine o1 ?_
   refine WL.cast (t:=33) (u':=.int .i64 ((k+1:Nat):Int)) rfl (aI (by omega)) ?_
   refine o1 ?_;refine nl ?_;have hns:(dD l&&(l.take (k+1)).all iU)=((dD l&&(l.take k).all iU)&&iU (nth l k)):=by rw[Dk (by omega),Bool.and_assoc]
   exact⟨k+1,by omega,by omega,aQ h0 [0] _ _ (by decide) ⟨rfl,rfl,rfl,rfl,Rj (by rw[hns,h4];rfl),rfl,trivial⟩ ⟨oe rfl rfl,rfl⟩⟩
  refine ex ?_;refine sq ?_;refine sq ?_;have htk:l.take k=l:=List.take_of_length_le (by omega)
  have hnu:(dD l&&(l.take k).all iU)=(dD l&&tN (aG l)):=by rw[htk];exact IC hf
  refine rl ?_;refine o1 ?_;refine nl ?_;refine iL rfl (fun h7=>?_) (fun h7=>?_)
  ·refine sq ?_;refine rl ?_;refine ca (gK) mZ rfl (qF (.of 0)) ?_;refine st ?_;refine o1 ?_;refine nl ?_;refine rt ?_
   have he:fB l m=60:=yB (.inl (RD (hnu.symm.trans h7)))
   have hq:dE l m=0:=(if_neg (by rw[he];decide))
   exact en (.inl rfl) rfl (dB (.cons (.agg (.cons (.id rfl) (.cons (.id rfl) (.cons (.id rfl) (.cons (.id rfl) .nil))))) (.cons (aO _) .nil))) (by decide) (fun h=>by cases h) (by rw[he,hq];rfl)
  refine sk ?_;refine sq ?_;refine sq ?_;refine rl ?_;(iterate 3 refine o1 ?_);refine WL.cast (t:=57) (u':=.int .i64 (((sS l)+(sT l):Nat):Int)) rfl (aI (by omega)) ?_
  refine o1 ?_;refine nl ?_;refine bR rfl (fun h8=>?_) (fun h8=>?_)
  ·refine sq ?_;refine rl ?_;refine ca (gK) mZ rfl (qF (.of 0)) ?_;refine st ?_;refine o1 ?_;refine nl ?_;refine rt ?_;have hok:gO l=true:=IB hf (hnu.symm.trans h7)
   have he:fB l m=3:=GK hok (by omega) (by omega)
   have hq:dE l m=0:=(if_neg (by rw[he];decide))
   exact en (.inl rfl) rfl (dB (.cons (.agg (.cons (.id rfl) (.cons (.id rfl) (.cons (.id rfl) (.cons (.id rfl) .nil))))) (.cons (aO _) .nil))) (by decide) (fun h=>by cases h) (by rw[he,hq];rfl)
  refine sk ?_;refine sq ?_;refine rl ?_;refine o1 ?_;refine ca (IA hl hn9 hf) RF ⟨a1 rfl,rfl⟩ (qF (.of (sR l))) ?_;refine st ?_;refine o1 ?_;refine nl ?_;refine rt ?_
  have hok:gO l=true:=IB hf (hnu.symm.trans h7)
  have he:fB l m=0:=GL hok (by omega) (by omega)
  have hq:dE l m=sR l:=if_pos he
  exact en (.inl rfl) rfl (dB (.cons (.agg (.cons (.id rfl) (.cons (.id rfl) (.cons (.id rfl) (.cons (.id rfl) .nil))))) (.cons (aO _) .nil))) (by decide) (fun h=>by cases h) (by rw[he,hq];rfl)
 refine o1 ?_;refine o1 ?_;(iterate 3 refine cH ?_);refine o1 ?_;refine nl ?_;refine fX rfl ?_;refine sq ?_;refine rl ?_;refine ca (gK) mZ rfl (qF (.of 0)) ?_;refine st ?_
 refine o1 ?_;refine nl ?_;refine rt ?_;have he:fB l m=60:=yB (.inl (RC (by rw[←Ac];exact h1)))
 have hq:dE l m=0:=(if_neg (by rw[he];decide))
 exact en (.inl rfl) rfl (dB (.cons (.agg (.cons (.id rfl) (.cons (.id rfl) (.cons (.id rfl) (.cons (.id rfl) .nil))))) (.cons (aO _) .nil))) (by decide) (fun h=>by cases h) (by rw[he,hq];rfl)
theorem Nt {l:List Nat}{c:Nat}(h:0<l.length):iF c l=true↔nth l (l.length-1)=c:=by
 unfold iF
 rw[decide_eq_true_eq]
 have e:l.drop (l.length-1)=[nth l (l.length-1)]:=by
  rw[List.drop_eq_getElem_cons (by omega),show l.length-1+1=l.length by omega,List.drop_length,bY (by omega)]
 rw[e]
 simp
theorem Nu {l:List Nat}(h:0<l.length) (h2:iF 37 l=true) (h3:¬nth l 0=45):dD (cS 37 l)=false:=by
 rw[←tF h2]
 refine decide_eq_false fun h4=>?_
 have h5:=congrArg List.length h4
 rw[List.length_take,List.length_take]at h5
 have h6:1<l.length:=by simp at h5;omega
 rw[List.take_take,Nat.min_eq_left (by omega)]at h4
 exact h3 ((rR h).1 h4)
theorem Fv {l:List Nat}{m:Nat}(h:dD l=false):¬dE l m<0:=by
 unfold dE
 split
 ·unfold sR
  rw[h,Rat.not_lt]
  exact Rat.divInt_nonneg (by show(0:Int)≤((_:Nat):Int);omega) (Int.natCast_nonneg _)
 exact Rat.not_lt.2 Rat.le_refl
theorem ID {l:List Nat}(h:0<l.length) (h2:nth l 0=45):eU l=60:=by
 cases hen:iF 37 l with
 | false=>exact kT (.inl hen)
 | true=>
  have hn:dD (cS 37 l)=true:=by
   have h9:=(Nt h).1 hen
   rw[←tF hen]
   have h6:1<l.length:=by
    rcases Nat.lt_or_ge 1 l.length with h1 | h1
    ·exact h1
    rw[show l.length-1=0 by omega]at h9
    omega
   refine decide_eq_true ?_
   rw[List.take_take,Nat.min_eq_left (by omega)]
   exact(rR h).2 h2
  by_cases he:fB (cS 37 l) 4=0
  ·refine kT (.inr (.inr (.inl ?_)))
   have hok:gO (cS 37 l)=true:=by
    unfold fB at he
    split at he
    ·rename_i h1;exact h1.1
    cases he
   unfold dE sR
   rw[if_pos he,hn]
   have hnz:bT (wh (aG (cS 37 l))++pl (aG (cS 37 l)))≠0:=fun h0=>by
    unfold gO tN at hok
    rw[hn,Ke (Ng _),h0]at hok
    simp at hok
   have hp:0<10^(pl (aG (cS 37 l))).length:=Nat.pow_pos (by omega)
   have e:∀V k:Nat,V≠0→0<k→Rat.divInt (-(V:Int)) (k:Int)<0:=fun V k hV hk=>by
    rw[←iI]
    have h2:(0:Rat)<(k:Rat):=by exact_mod_cast hk
    have h3:=pK (-(V:Int)) (k:Int) (by omega)
    rw[iI]
    by_cases h4:Rat.divInt (-(V:Int)) (k:Int)<0
    ·exact h4
    exfalso
    have h4:=Rat.not_lt.1 h4
    have h5:=Rat.mul_nonneg h4 (Rat.le_of_lt h2)
    rw[Rat.intCast_natCast]at h3
    rw[h3]at h5
    have h6:(0:Int)≤-(V:Int):=by exact_mod_cast h5
    omega
   exact e _ _ hnz hp
  exact kT (.inr (.inl he))
theorem BZ {l:List Nat}(hl:Lim 256 l) (hn9:l.length≤1000000):aE false Tryz.prog 13 [] [.one (tv (.string (aC l)))] (aN (.tup [qF (.of (dX l)),.one (tv (.int .i64 (eU l)))])):=by
 refine bF Tryz.func13 rfl Tryz.ntmps13 rfl aA rfl fun N9 w9 c0 h0=>?_
 have hX:Sz 41 (dE (cS 37 l) 4):=Ff _ 4
 refine sq ?_;refine rl ?_;refine al 0 ?_;refine o1 ?_;refine nl ?_;refine sq ?_;refine sq ?_;refine rl ?_;refine o1 ?_;refine o1 ?_
 refine WL.cast (t:=9) (u':=.bool (decide (l=[]))) rfl (congrArg Value.bool (gX hl)) ?_;refine o1 ?_;refine WL.splitb (t:=10) rfl (fun h1=>?_) (fun h1=>?_)
 ·(iterate 3 refine cH ?_);refine o1 ?_;refine o1 ?_;(iterate 6 refine cH ?_);refine o1 ?_;refine nl ?_;refine fX rfl ?_;refine sq ?_;refine rl ?_
  refine ca (gK) mZ rfl (qF (.of 0)) ?_;refine st ?_;refine o1 ?_;refine nl ?_;refine rt ?_;have he:eU l=60:=kT (.inl (by rw[of_decide_eq_true h1];rfl))
  have hq:dX l=0:=if_neg (by rw[he];decide)
  exact en (.inl rfl) rfl (dB (.cons (.agg (.cons (.id rfl) (.cons (.id rfl) (.cons (.id rfl) (.cons (.id rfl) .nil))))) (.cons (aO _) .nil))) (by decide) (fun h=>by cases h) (by rw[he,hq];rfl)
 refine o1 ?_;have hp9:=pX h1
 refine o1 ?_ (hC:=(by rw[aF];show 0<l.length;omega))
 refine WL.cast (t:=12) (u':=.int .u8 (((nth l (0)):Nat):Int)) rfl (congrArg (fun n:Nat=>Value.int .u8 (n:Int)) (eM (i:=0) (by omega) (dR hl (by omega)))) ?_
 (iterate 3 refine o1 ?_);refine WL.split (t:=15) rfl (fun h2=>?_) (fun h2=>?_)
 ·(iterate 6 refine cH ?_);refine o1 ?_;refine nl ?_;refine fX rfl ?_;refine sq ?_;refine rl ?_;refine ca (gK) mZ rfl (qF (.of 0)) ?_;refine st ?_;refine o1 ?_;refine nl ?_
  refine rt ?_;have he:eU l=60:=ID hp9 (by omega)
  have hq:dX l=0:=if_neg (by rw[he];decide)
  exact en (.inl rfl) rfl (dB (.cons (.agg (.cons (.id rfl) (.cons (.id rfl) (.cons (.id rfl) (.cons (.id rfl) .nil))))) (.cons (aO _) .nil))) (by decide) (fun h=>by cases h) (by rw[he,hq];rfl)
 (iterate 3 refine o1 ?_);refine WL.cast (t:=18) (u':=.int .i64 ((l.length:Nat):Int)) rfl (congrArg (fun n:Nat=>Value.int .i64 (n:Int)) (aF _)) ?_
 refine o1 ?_;refine WL.cast (t:=19) (u':=.int .i64 ((l.length-1:Nat):Int)) rfl (aI (by omega)) ?_
 refine o1 ?_ (hC:=(by rw[aF];omega))
 refine WL.cast (t:=20) (u':=.int .u8 (((nth l (l.length-1)):Nat):Int)) rfl (congrArg (fun n:Nat=>Value.int .u8 (n:Int)) (eM (i:=l.length-1) (by omega) (dR hl (by omega)))) ?_
 refine o1 ?_;refine o1 ?_;refine nl ?_;refine bR rfl (fun h3=>?_) (fun h3=>?_)
 ·refine sq ?_;refine rl ?_;refine ca (gK) mZ rfl (qF (.of 0)) ?_;refine st ?_;refine o1 ?_;refine nl ?_;refine rt ?_
  have he:eU l=60:=kT (.inl (Bool.eq_false_iff.2 fun h9=>by have:=(Nt hp9).1 h9;omega))
  have hq:dX l=0:=if_neg (by rw[he];decide)
  exact en (.inl rfl) rfl (dB (.cons (.agg (.cons (.id rfl) (.cons (.id rfl) (.cons (.id rfl) (.cons (.id rfl) .nil))))) (.cons (aO _) .nil))) (by decide) (fun h=>by cases h) (by rw[he,hq];rfl)
 refine sk ?_;refine sq ?_;have hen:iF 37 l=true:=(Nt hp9).2 (by omega)
 refine rl ?_;(iterate 3 refine o1 ?_);refine WL.cast (t:=27) (u':=.int .i64 ((l.length:Nat):Int)) rfl (congrArg (fun n:Nat=>Value.int .i64 (n:Int)) (aF _)) ?_
 refine o1 ?_;refine WL.cast (t:=28) (u':=.int .i64 ((l.length-1:Nat):Int)) rfl (aI (by omega)) ?_
 refine o1 ?_ (hC:=(by rw[aF];omega))
 refine WL.cast (t:=29) (u':=.string (aC (cS 37 l))) rfl (congrArg Value.string ((gV _ 0 _).trans (congrArg aC (tF hen)))) ?_
 refine ca (BY (l:=(cS 37 l)) (m:=4) (Eb hl) (Nat.le_trans Ec hn9)) RG ⟨a1 rfl,a1 rfl,rfl⟩ (.tup [qF (.of (dE (cS 37 l) 4)),.one (tv (.int .i64 (fB (cS 37 l) 4)))]) ?_
 (iterate 3 refine o1 ?_);refine al 1 ?_;refine st ?_;refine o1 ?_;refine nl ?_;refine sq ?_;refine sq ?_;refine rd [0,1] (fun i=>[].contains i) mixed ?_
 refine dv 0 ?_;refine dv 1 ?_;refine dv 2 ?_;refine WD.split (t:=35) rfl rfl (fun h4=>?_) (fun h4=>?_)
 ·refine dH 3 ?_;refine dH 4 ?_;refine dH 5 ?_;refine dH 6 ?_;refine dv 7 ?_;refine aU ?_;refine fX rfl ?_;refine sq ?_;refine rl ?_;refine ca (gK) mZ rfl (qF (.of 0)) ?_
  refine st ?_;refine o1 ?_;refine nl ?_;refine rt ?_;have he:eU l=60:=kT (.inr (.inl (by omega)))
  have hq:dX l=0:=if_neg (by rw[he];decide)
  exact en (.inl rfl) rfl (dB (.cons (.agg (.cons (.id rfl) (.cons (.id rfl) (.cons (.id rfl) (.cons (.id rfl) .nil))))) (.cons (aO _) .nil))) (by decide) (fun h=>by cases h) (by rw[he,hq];rfl)
 refine aW 3 ?_;refine aJ 4 rfl (iC (n:=100) (by omega) (by omega)) rQ ⟨a1 rfl,rfl⟩ (qF (.of ((100:Int):Rat))) ?_
 refine aJ 5 rfl (Fq (Qn.of (p:=(dE (cS 37 l) 4)) (hX.mono (M:=68719476736) (by omega))) (Qn.of (p:=((100:Int):Rat)) (cB (by omega) (by omega))) (hX.mono (M:=17179869184) (by omega)) ((cB (by omega) (by omega)).mono (M:=17179869184) (by omega))) Vt ⟨aB rfl,aB rfl,rfl⟩ (.one (tv (.int .i64 ((dE (cS 37 l) 4)-((100:Int):Rat)).num.sign))) ?_
 refine df 6 ?_;refine df 7 ?_;refine aU ?_;refine bR rfl (fun h5=>?_) (fun h5=>?_)
 ·refine sq ?_;refine rl ?_;refine ca (gK) mZ rfl (qF (.of 0)) ?_;refine st ?_;refine o1 ?_;refine nl ?_;refine rt ?_
  have he:eU l=60:=kT (.inr (.inr (.inr (Yn h5))))
  have hq:dX l=0:=if_neg (by rw[he];decide)
  exact en (.inl rfl) rfl (dB (.cons (.agg (.cons (.id rfl) (.cons (.id rfl) (.cons (.id rfl) (.cons (.id rfl) .nil))))) (.cons (aO _) .nil))) (by decide) (fun h=>by cases h) (by rw[he,hq];rfl)
 refine sk ?_;refine sq ?_;refine rd [0,1] (fun i=>[8].contains i) mixed ?_
 refine aW 0 ?_;refine WO.two (i:=1) (j:=6) (by kernel_rfl) ?_ ?_
 ·refine cU 1 rfl (iC (n:=100) (by omega) (by omega)) rQ ⟨a1 rfl,rfl⟩ (qF (.of ((100:Int):Rat))) ?_
  refine WO.two (i:=2) (j:=6) (by kernel_rfl) ?_ ?_
  ·refine cU 2 rfl (yK (Qn.of (p:=(dE (cS 37 l) 4)) (hX.mono (M:=68719476736) (by omega))) (Qn.of (p:=((100:Int):Rat)) (cB (by omega) (by omega))) (hX.mono (M:=17179869184) (by omega)) ((cB (by omega) (by omega)).mono (M:=17179869184) (by omega))) Fu ⟨aB rfl,aB rfl,rfl⟩ (.tup [qF (.of ((dE (cS 37 l) 4)/((100:Int):Rat))),.one (tv (.int .i64 (if((100:Int):Rat)=0 then 20 else 0)))]) ?_
   refine df 3 ?_;refine df 4 ?_;refine df 5 ?_;refine eH (key:=2) 6 (by kernel_rfl) rfl rfl aA rfl ⟨rfl,rfl,trivial⟩ ?_
   refine aS 7 (by kernel_rfl) rfl rfl aA rfl rfl rfl rfl ⟨rfl,rfl,trivial⟩ ?_
   refine cZ 8 (by kernel_rfl) rfl rfl aA rfl (by trivial) ?_ (fun h=>by first | rfl | cases h)
   refine aU ?_;refine sq ?_;refine rl ?_;refine ld ?_;refine st ?_;refine o1 ?_;refine nl ?_;refine rt ?_
   have he:eU l=0:=Fe hen (by omega) (Fv (Nu hp9 hen (by omega))) (fun h9=>h5 (Fg h9))
   have hq:dX l=(dE (cS 37 l) 4)/((100:Int):Rat):=if_pos he
   exact en (.inl rfl) rfl (dB (.cons (.agg (.cons (.id rfl) (.cons (.id rfl) (.cons (.id rfl) (.cons (.id rfl) .nil))))) (.cons (aO _) .nil))) (by decide) (fun h=>by cases h) (by rw[he,hq];rfl)
  refine bS (key:=2) 6 rfl rfl aA rfl ⟨rfl,rfl,trivial⟩ ?_
  refine aJ 2 rfl (yK (Qn.of (p:=(dE (cS 37 l) 4)) (hX.mono (M:=68719476736) (by omega))) (Qn.of (p:=((100:Int):Rat)) (cB (by omega) (by omega))) (hX.mono (M:=17179869184) (by omega)) ((cB (by omega) (by omega)).mono (M:=17179869184) (by omega))) Fu ⟨aB rfl,aB rfl,rfl⟩ (.tup [qF (.of ((dE (cS 37 l) 4)/((100:Int):Rat))),.one (tv (.int .i64 (if((100:Int):Rat)=0 then 20 else 0)))]) ?_
  refine df 3 ?_;refine df 4 ?_;refine df 5 ?_;refine aS 7 (by kernel_rfl) rfl rfl aA rfl rfl rfl rfl ⟨rfl,rfl,trivial⟩ ?_
  refine cZ 8 (by kernel_rfl) rfl rfl aA rfl (by trivial) ?_ (fun h=>by first | rfl | cases h)
  refine aU ?_;refine sq ?_;refine rl ?_;refine ld ?_;refine st ?_;refine o1 ?_;refine nl ?_;refine rt ?_
  have he:eU l=0:=Fe hen (by omega) (Fv (Nu hp9 hen (by omega))) (fun h9=>h5 (Fg h9))
  have hq:dX l=(dE (cS 37 l) 4)/((100:Int):Rat):=if_pos he
  exact en (.inl rfl) rfl (dB (.cons (.agg (.cons (.id rfl) (.cons (.id rfl) (.cons (.id rfl) (.cons (.id rfl) .nil))))) (.cons (aO _) .nil))) (by decide) (fun h=>by cases h) (by rw[he,hq];rfl)
 refine bS (key:=2) 6 rfl rfl aA rfl ⟨rfl,rfl,trivial⟩ ?_;refine aJ 1 rfl (iC (n:=100) (by omega) (by omega)) rQ ⟨a1 rfl,rfl⟩ (qF (.of ((100:Int):Rat))) ?_
 refine aJ 2 rfl (yK (Qn.of (p:=(dE (cS 37 l) 4)) (hX.mono (M:=68719476736) (by omega))) (Qn.of (p:=((100:Int):Rat)) (cB (by omega) (by omega))) (hX.mono (M:=17179869184) (by omega)) ((cB (by omega) (by omega)).mono (M:=17179869184) (by omega))) Fu ⟨aB rfl,aB rfl,rfl⟩ (.tup [qF (.of ((dE (cS 37 l) 4)/((100:Int):Rat))),.one (tv (.int .i64 (if((100:Int):Rat)=0 then 20 else 0)))]) ?_
 refine df 3 ?_;refine df 4 ?_;refine df 5 ?_;refine aS 7 (by kernel_rfl) rfl rfl aA rfl rfl rfl rfl ⟨rfl,rfl,trivial⟩ ?_
 refine cZ 8 (by kernel_rfl) rfl rfl aA rfl (by trivial) ?_ (fun h=>by first | rfl | cases h)
 refine aU ?_;refine sq ?_;refine rl ?_;refine ld ?_;refine st ?_;refine o1 ?_;refine nl ?_;refine rt ?_
 have he:eU l=0:=Fe hen (by omega) (Fv (Nu hp9 hen (by omega))) (fun h9=>h5 (Fg h9))
 have hq:dX l=(dE (cS 37 l) 4)/((100:Int):Rat):=if_pos he
 exact en (.inl rfl) rfl (dB (.cons (.agg (.cons (.id rfl) (.cons (.id rfl) (.cons (.id rfl) (.cons (.id rfl) .nil))))) (.cons (aO _) .nil))) (by decide) (fun h=>by cases h) (by rw[he,hq];rfl)
theorem kV {q:Rat}(h:0≤q):0≤hal q:=by
 have h1:0≤q.num.fdiv (q.den:Int):=by rw[lN];have:=CA h;rwa[show fl 0=0 from IE 0]at this
 unfold hal
 split <;> omega
theorem IF {q:Rat}{m:Int}(h:q≤(m:Rat)):hal q≤m:=by
 have h2:=(Vu q).1
 rcases Int.lt_or_le m (hal q)with h3 | h3
 ·exfalso
  have h4:((m+1:Int):Rat)≤((hal q:Int):Rat):=by exact_mod_cast h3
  have h5:((m+1:Int):Rat)=(m:Rat)+1:=by push_cast;rfl
  rw[h5]at h4
  have h6:2*((m:Rat)+1)-2*q≤1:=by grind
  grind
 exact h3
def aH (q:Rat):Rat:=if q<0 then-q else q
theorem pL (q:Rat):0≤aH q:=by
 unfold aH
 split
 ·grind
 exact Rat.not_lt.1 ‹_›
theorem Fw {q:Rat}(h:decide (q<0)=true):-q=aH q:=(if_pos (of_decide_eq_true h)).symm
theorem Rk {q:Rat}(h:decide (q<0)=false):q=aH q:=(if_neg (of_decide_eq_false h)).symm
theorem CB {L:Nat}{q:Rat}(h:Sz L q):Sz L (aH q):=by
 unfold aH
 split
 ·exact yJ h
 exact h
theorem CC {q:Rat}{d:Nat}(h:decide (q<0)=true) (h2:hal (aH q)≠0):45::wr (hal (aH q)).natAbs d=pt (hal q) d:=by
 have h1:=kV (pL q)
 rw[←Fw h,Kf]at*
 unfold pt
 rw[if_pos (by omega),Int.natAbs_neg]
theorem Kg {q:Rat}{d:Nat}(h:decide (q<0)=false∨hal (aH q)=0):wr (hal (aH q)).natAbs d=pt (hal q) d:=by
 have h1:=kV (pL q)
 unfold pt
 cases hq:decide (q<0)with
 | false=>
  rw[←Rk hq]at*
  rw[if_neg (by omega)]
 | true=>
  rw[hq]at h
  have h2:=h.elim (fun h=>by cases h) id
  rw[←Fw hq,Kf]at h2⊢
  rw[if_neg (by omega),Int.natAbs_neg]
def sV (l:List Nat):List Nat:=dl9c (iN p0 l)
where dl9c (l:List Nat):List Nat:=if l.drop (l.length-1)=[46]then l.take (l.length-1)else l
theorem Za (l:List Nat):iN p0 (l++[48])=iN p0 l:=by
 unfold iN
 rw[List.reverse_append]
 rfl
theorem Zb {l:List Nat}{c:Nat}(h:c≠48):iN p0 (l++[c])=l++[c]:=by
 unfold iN
 rw[List.reverse_append]
 show(List.dropWhile p0 (c::l.reverse)).reverse=_
 rw[List.dropWhile_cons,if_neg (by unfold p0;simp[h])]
 simp
theorem RH {l:List Nat}{c:Nat}(h:c≠46):sV.dl9c (l++[c])=l++[c]:=by
 unfold sV.dl9c
 rw[if_neg]
 rw[List.length_append,List.length_singleton,Nat.add_sub_cancel,List.drop_left]
 intro h2
 injection h2 with h2
 exact h h2
theorem RI (l:List Nat):sV.dl9c (l++[46])=l:=by
 unfold sV.dl9c
 rw[List.length_append,List.length_singleton,Nat.add_sub_cancel,if_pos List.drop_left,List.take_left]
theorem Ad (n d:Nat):wr n (d+1)=(if d=0 then tx (n/10)++[46]else wr (n/10) d)++[48+n%10]:=by
 unfold wr
 rw[if_neg (by omega),pd,Nat.pow_succ,Nat.mul_comm,←Nat.div_div_eq_div_mul]
 by_cases h:d=0
 ·subst h
  rw[if_pos rfl,Nat.pow_zero,Nat.div_one]
  simp[pd]
 rw[if_neg h,if_neg h]
 simp
theorem Nv {n d:Nat}(h:n%10≠0):sV (wr n (d+1))=wr n (d+1):=by
 unfold sV
 rw[Ad,Zb (by omega),RH (by omega)]
theorem rS {n d:Nat}(h:n%10=0):sV (wr n (d+2))=sV (wr (n/10) (d+1)):=by
 unfold sV
 rw[Ad,h,Za,if_neg (by omega)]
theorem RJ {n:Nat}(h:n%10=0):sV (wr n 1)=wr (n/10) 0:=by
 unfold sV
 rw[Ad,h,Za,if_pos rfl,Zb (by omega),RI]
 unfold wr
 rw[if_pos rfl,Nat.pow_zero,Nat.div_one,List.append_nil]
theorem RK {N j:Nat}(hj:j≤4) (h:N%10^(4-j)=0) (h2:∀i,i<j→N%10^(4-i)≠0):sV (wr N 4)=wr (N/10^(4-j)) j:=by
 match j,hj with
 | 4,_=>
  have:=h2 3 (by omega)
  rw[Nv (d:=3) (by simpa using this)]
  simp
 | 3,_=>
  have:=h2 2 (by omega)
  have e:10^(4-3)=10:=rfl
  rw[e]at h⊢
  simp only[show 10^(4-2)=100 from rfl]at this
  rw[rS (d:=2) h,Nv (d:=2) (by omega)]
 | 2,_=>
  have:=h2 1 (by omega)
  have e:10^(4-2)=100:=rfl
  rw[e]at h⊢
  simp only[show 10^(4-1)=1000 from rfl]at this
  rw[rS (d:=2) (by omega),rS (d:=1) (by omega),Nv (d:=1) (by omega),Nat.div_div_eq_div_mul]
 | 1,_=>
  have:=h2 0 (by omega)
  have e:10^(4-1)=1000:=rfl
  rw[e]at h⊢
  simp only[show 10^(4-0)=10000 from rfl]at this
  rw[rS (d:=2) (by omega),rS (d:=1) (by omega),rS (d:=0) (by omega),Nv (d:=0) (by omega),Nat.div_div_eq_div_mul,Nat.div_div_eq_div_mul]
 | 0,_=>
  have e:10^(4-0)=10000:=rfl
  rw[e]at h⊢
  rw[rS (d:=2) (by omega),rS (d:=1) (by omega),rS (d:=0) (by omega),RJ (by omega),Nat.div_div_eq_div_mul,Nat.div_div_eq_div_mul,Nat.div_div_eq_div_mul]
theorem PO (j:Nat):((10^j:Nat):Rat)≠0:=by
 have:0<10^j:=Nat.pow_pos (by omega)
 exact_mod_cast (by omega:(10^j:Nat)≠0)
theorem PP (j:Nat):(0:Rat)<((10^j:Nat):Rat):=by
 have:0<10^j:=Nat.pow_pos (by omega)
 exact_mod_cast this
theorem IG (z:Int) (j:Nat):Rat.divInt z ((10^j:Nat):Int)*((10^j:Nat):Rat)=(z:Rat):=by
 have h:=pK z ((10^j:Nat):Int) (by have:0<10^j:=Nat.pow_pos (by omega);omega)
 rwa[Rat.intCast_natCast]at h
theorem CD {m:Nat}(h:m<1000):(tx m).length≤3:=by
 by_cases h1:m<10
 ·rw[Fx h1];simp
 rw[Ae (by omega),List.length_append]
 by_cases h2:m/10<10
 ·rw[Fx h2];simp
 rw[Ae (by omega),List.length_append,Fx (by omega)];simp
theorem IH (l:List Nat):iF 37 (l++[37])=true∧cS 37 (l++[37])=l:=by
 have h:(l++[37]).drop ((l++[37]).length-1)=[37]:=by rw[List.length_append,List.length_singleton,Nat.add_sub_cancel,List.drop_left]
 refine⟨decide_eq_true h,?_⟩
 unfold cS
 rw[if_pos h,List.length_append,List.length_singleton,Nat.add_sub_cancel,List.take_left]
section
variable {p:Rat}{j:Nat}
theorem Rl (h0:0≤p) (h1:p≤((1:Int):Rat)) (hj:j≤4):eU (cD (p*((100:Int):Rat)) j++[37])=0∧dX (cD (p*((100:Int):Rat)) j++[37])=Rat.divInt (hal (p*((100:Int):Rat)*((10^j:Nat):Rat))) ((10^j:Nat):Int)/((100:Int):Rat):=by
 obtain⟨e1,e2⟩:=IH (cD (p*((100:Int):Rat)) j)
 have hT:=PP j
 have hu:((100:Int):Rat)=100:=rfl
 have h1':p≤1:=h1
 have hz0:0≤hal (p*((100:Int):Rat)*((10^j:Nat):Rat)):=kV (by rw[hu];exact Rat.mul_nonneg (by grind) (Rat.le_of_lt hT))
 have hzm:hal (p*((100:Int):Rat)*((10^j:Nat):Rat))≤100*((10^j:Nat):Int):=IF (by
  rw[Rat.intCast_mul,Rat.intCast_natCast,hu]
  exact Rat.mul_le_mul_of_nonneg_right (by show p*100≤100;grind) (Rat.le_of_lt hT))
 have hE:fB (cD (p*((100:Int):Rat)) j) 4=0:=by
  unfold cD
  rw[RL,if_pos hj,if_neg]
  generalize hal (p*((100:Int):Rat)*((10^j:Nat):Rat))=z at hz0 hzm
  have h2:z.natAbs/10^j≤100:=by
   have h3:z.natAbs≤100*10^j:=by omega
   calc z.natAbs/10^j≤100*10^j/10^j:=Nat.div_le_div_right h3
    _=100:=Nat.mul_div_cancel _ (Nat.pow_pos (by omega))
  have:=CD (m:=z.natAbs/10^j) (by omega)
  omega
 have hQ:dE (cD (p*((100:Int):Rat)) j) 4=Rat.divInt (hal (p*((100:Int):Rat)*((10^j:Nat):Rat))) ((10^j:Nat):Int):=by
  unfold dE
  rw[if_pos hE]
  exact RM _ _
 have hv:=IG (hal (p*((100:Int):Rat)*((10^j:Nat):Rat))) j
 have hS:eU (cD (p*((100:Int):Rat)) j++[37])=0:=by
  refine if_pos ⟨e1,by rw[e2];exact hE,?_,?_⟩
  ·rw[e2,hQ]
   refine Rat.le_of_mul_le_mul_right ?_ hT
   rw[hv,Rat.zero_mul]
   exact_mod_cast hz0
  rw[e2,hQ]
  refine Rat.le_of_mul_le_mul_right ?_ hT
  rw[hv]
  have h9:((hal (p*((100:Int):Rat)*((10^j:Nat):Rat)):Int):Rat)≤((100*((10^j:Nat):Int):Int):Rat):=by exact_mod_cast hzm
  rwa[Rat.intCast_mul,Rat.intCast_natCast]at h9
 refine⟨hS,?_⟩
 unfold dX
 rw[if_pos hS,e2,hQ]
theorem Kh (h0:0≤p) (h1:p≤((1:Int):Rat)) (hj:j≤4) (h:p=dX (cD (p*((100:Int):Rat)) j++[37])):p*((100:Int):Rat)*((10^j:Nat):Rat)=((hal (p*((100:Int):Rat)*((10^j:Nat):Rat)):Int):Rat):=by
 rw[(Rl h0 h1 hj).2]at h
 have hv:=IG (hal (p*((100:Int):Rat)*((10^j:Nat):Rat))) j
 generalize hal (p*((100:Int):Rat)*((10^j:Nat):Rat))=z at h hv
 have h2:p*((100:Int):Rat)=Rat.divInt z ((10^j:Nat):Int):=by
  rw[h,Rat.div_mul_cancel]
  decide
 rw[h2]
 exact hv
theorem II (h0:0≤p) (h1:p≤((1:Int):Rat)) (hj:j≤4){z:Int}(h:p*((100:Int):Rat)*((10^j:Nat):Rat)=(z:Rat)):p=dX (cD (p*((100:Int):Rat)) j++[37]):=by
 rw[(Rl h0 h1 hj).2,h,Ki]
 have hv:=IG z j
 rw[←h]at hv
 have h2:=Af (PO j) hv
 rw[h2]
 have h3:p*((100:Int):Rat)/((100:Int):Rat)=p:=by
  rw[Rat.div_def,Rat.mul_assoc,Rat.mul_inv_cancel _ (by decide),Rat.mul_one]
 exact h3.symm
theorem PQ (hj:j≤4):p*((1000000:Int):Rat)=p*((100:Int):Rat)*((10^j:Nat):Rat)*((10^(4-j):Nat):Rat):=by
 rw[Rat.mul_assoc,Rat.mul_assoc]
 congr 1
 have:(1000000:Int)=100*((10^j:Nat)*(10^(4-j):Nat):Nat):=by
  rw[←Nat.pow_add,show j+(4-j)=4 by omega]
  rfl
 rw[this,Rat.intCast_mul,Rat.intCast_natCast,Rat.natCast_mul]
theorem Kj (h0:0≤p) (h:(p*((1000000:Int):Rat)).den=1):∃N:Nat,p*((1000000:Int):Rat)=(((N:Nat):Int):Rat):=by
 have h1:=CE h
 have h2:0≤(p*((1000000:Int):Rat)).num:=by
  rw[Rat.num_nonneg]
  exact Rat.mul_nonneg h0 (by decide)
 refine⟨(p*((1000000:Int):Rat)).num.toNat,?_⟩
 rw[Int.toNat_of_nonneg h2]
 exact h1.symm
theorem qL {N:Nat}(hN:p*((1000000:Int):Rat)=(((N:Nat):Int):Rat)) (h0:0≤p) (h1:p≤((1:Int):Rat)) (hj:j≤4):(p=dX (cD (p*((100:Int):Rat)) j++[37])↔N%10^(4-j)=0)∧(N%10^(4-j)=0→cD (p*((100:Int):Rat)) j=wr (N/10^(4-j)) j):=by
 have hm:=PQ (p:=p) hj
 rw[hN]at hm
 have back:N%10^(4-j)=0→p*((100:Int):Rat)*((10^j:Nat):Rat)=(((N/10^(4-j):Nat):Int):Rat):=fun h=>by
  refine Af (PO (4-j)) ?_
  rw[←hm,Rat.intCast_natCast,Rat.intCast_natCast,←Rat.natCast_mul]
  congr 1
  have:=Nat.div_add_mod' N (10^(4-j))
  omega
 refine⟨⟨fun h=>?_,fun h=>II h0 h1 hj (back h)⟩,fun h=>?_⟩
 ·have h2:=Kh h0 h1 hj h
  rw[h2]at hm
  have hz0:0≤hal (p*((100:Int):Rat)*((10^j:Nat):Rat)):=kV (Rat.mul_nonneg (Rat.mul_nonneg h0 (by decide)) (Rat.le_of_lt (PP j)))
  generalize hal (p*((100:Int):Rat)*((10^j:Nat):Rat))=z at hm hz0
  obtain⟨q,rfl⟩:∃q:Nat,z=(q:Int):=⟨z.toNat,by omega⟩
  rw[Rat.intCast_natCast,Rat.intCast_natCast,←Rat.natCast_mul]at hm
  have h3:N=q*10^(4-j):=by exact_mod_cast hm
  rw[h3,Nat.mul_mod_left]
 unfold cD
 rw[back h,Ki]
 unfold pt
 rw[if_neg (Int.not_lt.2 (Int.natCast_nonneg _)),Int.natAbs_natCast]
theorem IJ (h0:0≤p) (h1:p≤((1:Int):Rat)) (hj:j≤4) (h:p=dX (cD (p*((100:Int):Rat)) j++[37])) (hn:∀i,i<j→p≠dX (cD (p*((100:Int):Rat)) i++[37])):cD (p*((100:Int):Rat)) j++[37]=qH p:=by
 have hd:(p*((1000000:Int):Rat)).den=1:=by
  rw[PQ hj,Kh h0 h1 hj h]
  generalize hal (p*((100:Int):Rat)*((10^j:Nat):Rat))=z
  have e:(z:Rat)*((10^(4-j):Nat):Rat)=((z*((10^(4-j):Nat):Int):Int):Rat):=by rw[Rat.intCast_mul,Rat.intCast_natCast]
  rw[e]
  exact Rat.den_intCast _
 obtain⟨N,hN⟩:=Kj h0 hd
 have h2:=((qL hN h0 h1 hj).1.1 h)
 have h3:∀i,i<j→N%10^(4-i)≠0:=fun i hi h9=>hn i hi ((qL hN h0 h1 (by omega)).1.2 h9)
 have h4:=RK hj h2 h3
 have h5:=(qL (j:=4) hN h0 h1 (Nat.le_refl _)).2 (by simp[Nat.mod_one])
 rw[Ys (Rat.not_lt.2 h0) (Rat.not_lt.2 h1) hd]
 rw[show aD 4=4 from rfl,h5,(qL hN h0 h1 hj).2 h2,←h4]
 simp only[Nat.sub_self,Nat.pow_zero,Nat.div_one]
 rfl
theorem CF (h0:0≤p) (h1:p≤((1:Int):Rat)) (hn:∀i,i<5→p≠dX (cD (p*((100:Int):Rat)) i++[37])):[]=qH p:=by
 refine(qI (.inr (.inr fun hd=>?_))).symm
 obtain⟨N,hN⟩:=Kj h0 hd
 exact hn 4 (by omega) ((qL (j:=4) hN h0 h1 (Nat.le_refl _)).1.2 (by simp[Nat.mod_one]))
end
end Go.Proofs.YtcaakamelngceaaGreatDoor
