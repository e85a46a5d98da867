/- Part 12 of a proof: K4 to Rib6. -/
import Derived.Test.YthmgbcdidlkpoaaGreatM11
import Derived.Test.YthmgbcdidlkpoaaGreatM5
import Derived.Test.YthmgbcdidlkpoaaGreatM9
import Derived.WalkKit
import Derived.ProofKit
import Derived.OpenShut
import Derived.ChangeOld
import Derived.Below
import Derived.Carry
import Derived.Test.YthmgbcdidlkpoaaGreatM7
set_option maxRecDepth 100000
set_option linter.unusedVariables false
set_option linter.unusedSimpArgs false
namespace Go.Proofs.YthmgbcdidlkpoaaGreat
open Go Go.RowKit
theorem Tm {b:Int}{n:Nat}(h:pL b n=0):∃m:Nat,b=(m:Int)∧m<n:=by
 unfold pL at h
 split at h
 ·cases h
 exact⟨b.toNat,by omega,by omega⟩
theorem Ip {k:Int}(h:0≤k.sign):0≤k:=by
 rcases Int.lt_trichotomy k 0 with h1 | h1 | h1
 ·rw[Int.sign_eq_neg_one_of_neg h1]at h
  omega
 ·omega
 omega
theorem HK {L:Nat}{d:Rat}(h:Sz L d):Sz L (eK [d,-d]):=by
 show Sz L (eW d [-d])
 unfold eW
 simp only[List.foldl_cons,List.foldl_nil]
 split
 ·exact mB h
 exact h
theorem HM {d:Rat}(h:d<1) (h2:-d<1):¬0≤(eK [d,-d]-((1:Int):Rat)).num.sign:=by
 have h1:eK [d,-d]<1:=by
  show eW d [-d]<1
  unfold eW
  simp only[List.foldl_cons,List.foldl_nil]
  split
  ·exact h2
  exact h
 have e:((1:Int):Rat)=1:=rfl
 have h3:eK [d,-d]-((1:Int):Rat)<0:=by rw[e];grind
 have h4:=Int.sign_eq_neg_one_of_neg (yR.2 h3)
 rw[h4]
 omega
theorem DO {d:Rat}(hd:Sz 17179869184 d):aC false Tryz.prog 29 [] [.one (.t (sQ false (gD [d,-d])))] (aM (qF (.of (eK [d,-d])))):=by
 have hz:∀q∈[d,-d],Sz 17179869184 q:=fun q hq=>by
  rcases List.mem_cons.1 hq with rfl | hq
  ·exact hd
  rw[List.mem_singleton]at hq
  rw[hq]
  exact mB hd
 have h:=DN (xs:=gD [d,-d]) (by show 0<2;omega) (fun x hx=>⟨pK hz (by omega) x hx,sL hz x hx⟩) (by show 2≤_;omega)
 rwa[uA]at h
theorem Yx {x y:Zi}{k k':Int}(h:Zn x k) (h':Zn y k') (e:k=k'):aC true Tryz.prog 23 [] [gF x,gF y] (aM (.one (tv (.int .i64 0)))):=by
 have h1:=sG h h'
 rw[e,Int.sub_self]at h1
 exact h1
theorem DP {a:Zi}{k:Int}(ha:Zn a k):aC false Tryz.prog 25 [] [gF a,kF 1] (aM (.tup [qF (.of (k:Rat)),.one (tv (.int .i64 0))])):=by
 have h:=mD ha (Zn.of (k:=1) (by decide))
 rw[Tf]at h
 exact h
set_option maxHeartbeats 4000000 in
theorem Cm {a:Zi}{b:Int}{xs:List Fr4}(ha0:Lim 4294967296 a.x) (hx0:∀x∈xs,LimF x):aC true Tryz.prog 5 [] [gF a,.one (tv (.int .i64 b)),.one (.t (sQ false xs))] (aM (.one (tv (.bool true)))):=by
 refine bR Tryz.func5 rfl Tryz.ntmps5 rfl aA rfl fun N9 w9 c0 h0=>?_
 refine sq ?_;refine rl ?_;refine bx 0 ?_;refine o1 ?_;refine nl ?_;refine sq ?_;refine sq ?_;refine rl ?_;refine ld ?_;refine o1 ?_
 refine ca (DL (a:=a) (xs:=xs)) LT ⟨aB rfl,a1 rfl,rfl⟩ (.one (tv (.bool (sR a xs)))) ?_;refine WL.splitb (t:=19) rfl (fun h1=>?_) (fun h1=>?_)
 ·refine o1 ?_;refine o1 ?_;refine ld ?_;have hzn9:Zn a (zv a):=Wd ha0 (Ds h1).2.1
  refine ca (uJ hzn9.g) Lq ⟨aB rfl,rfl⟩ (.one (tv (.bool (cJ a.s a.x)))) ?_;refine WL.splitb (t:=23) rfl (fun h2=>?_) (fun h2=>?_)
  ·refine o1 ?_;refine o1 ?_;refine nl ?_;refine fK rfl ?_;refine sk ?_;refine sq ?_;obtain⟨hs6,ha6,hl12⟩:=Ds h1
   have hO:=fun x (h:x∈xs)=>Sy (hx0 x h) (hs6 x h)
   have hx:∀x∈xs,x.ok:=fun x h=>(hO x h).1
   have hz:∀x∈xs,Sz 7 x.q:=fun x h=>(hO x h).2.1
   have hzn:=Wd ha0 ha6
   have hsz:=DF ha0 ha6
   have hXz:=Ol (k:=zv a) (b:=b) hsz hz hl12
   have hXn:(aS ((zv a:Int):Rat) b (xs.map Fr4.q)).length≤12:=Ig hl12
   have hWn:(aY (aS ((zv a:Int):Rat) b (xs.map Fr4.q))).length≤12:=Nat.le_trans Dn hXn
   have hws:∀k∈(aY (aS ((zv a:Int):Rat) b (xs.map Fr4.q))),(dg 4294967296 k.natAbs).length≤1000000:=fun k hk=>Nat.le_trans (Ie hXz k hk) (by omega)
   have hzl:(aX (aY (aS ((zv a:Int):Rat) b (xs.map Fr4.q)))).length=(aY (aS ((zv a:Int):Rat) b (xs.map Fr4.q))).length:=dP _
   have hwz:∀z∈(aX (aY (aS ((zv a:Int):Rat) b (xs.map Fr4.q)))),ZL 1000000 z:=fun z hz9=>(by obtain⟨k,hk,rfl⟩:=List.mem_map.1 hz9;exact⟨aH (by omega) _,hws k hk⟩)
   have hXl:∀q∈(aS ((zv a:Int):Rat) b (xs.map Fr4.q)),(Fr4.of q).len 1099511627776:=fun q hq=>⟨Nat.le_trans (hXz q hq).1 (by omega),Nat.le_trans (hXz q hq).2 (by omega)⟩
   refine rl ?_;refine ld ?_;refine o1 ?_;refine o1 ?_
   refine ca (xC hzn hsz hx hz hl12) oU ⟨aB rfl,a1 rfl,a1 rfl,rfl⟩ (.tup [.one (.t (.s false 24 2 (aX (aY (aS ((zv a:Int):Rat) b (xs.map Fr4.q)))).length ((aX (aY (aS ((zv a:Int):Rat) b (xs.map Fr4.q)))).flatMap (dD true)))),.one (tv (.int .i64 (pL b xs.length)))]) ?_
   refine o1 ?_;refine o1 ?_;refine WL.sub (Ij (i:=32) (t':=24) rfl rfl (qT (aX (aY (aS ((zv a:Int):Rat) b (xs.map Fr4.q)))))) ?_;(iterate 3 refine o1 ?_);refine nl ?_
   refine sq ?_;refine sq ?_;refine rl ?_;refine o1 ?_;refine o1 ?_;refine nl ?_;refine bX rfl (fun h3=>?_) (fun h3=>?_)
   ·refine sq ?_;have hw0:(aX (aY (aS ((zv a:Int):Rat) b (xs.map Fr4.q)))).length=0:=by rw[hzl,uD (by rw[List.length_map];exact Ok h3),If];rfl
    refine rl ?_;(iterate 4 refine o1 ?_);refine WL.split (t:=39) rfl (fun h4=>?_) (fun h4=>?_)
    ·refine ca (qV) We rfl (.one (tv (.bool true))) ?_;refine o1 ?_;refine o1 ?_;refine nl ?_;refine rt ?_;exact oF (.inl rfl) rfl (rfl)
    exact absurd (congrArg (fun n:Nat=>(n:Int)) hw0) h4
   refine sk ?_;refine sq ?_;obtain⟨m,hb,hm⟩:=Tm (Decidable.byContradiction h3)
   have hm9:m<(xs.map Fr4.q).length:=by rw[List.length_map];exact hm
   have hex:Exa (aS ((zv a:Int):Rat) b (xs.map Fr4.q)) (aY (aS ((zv a:Int):Rat) b (xs.map Fr4.q))):=by rw[hb];exact Oz hm9
   have hXe:(aS ((zv a:Int):Rat) b (xs.map Fr4.q)).length=xs.length:=by rw[hb,wB hm9,List.length_map]
   have hWe:(aX (aY (aS ((zv a:Int):Rat) b (xs.map Fr4.q)))).length=xs.length:=by rw[hzl,hex.len,hXe]
   have hsum:cU (aX (aY (aS ((zv a:Int):Rat) b (xs.map Fr4.q))))=zv a:=by rw[show(aX (aY (aS ((zv a:Int):Rat) b (xs.map Fr4.q))))=(aY (aS ((zv a:Int):Rat) b (xs.map Fr4.q))).map Zi.of from rfl,Ic,hex.sum,hb,zG hm9,Rat.num_intCast]
   have hsl:(dg 4294967296 (cU (aX (aY (aS ((zv a:Int):Rat) b (xs.map Fr4.q))))).natAbs).length≤6:=by rw[hsum];exact hsz
   refine rl ?_;refine ld ?_;refine o1 ?_;refine o1 ?_
   refine ca (CP hzn hsz hx hz hl12) DE ⟨aB rfl,a1 rfl,a1 rfl,rfl⟩ (.tup [.agg [.t (.s false 48 4 (aS ((zv a:Int):Rat) b (xs.map Fr4.q)).length ((aS ((zv a:Int):Rat) b (xs.map Fr4.q)).flatMap dB))],.one (tv (.int .i64 (pL b xs.length)))]) ?_
   (iterate 3 refine o1 ?_);refine al 1 ?_;refine st ?_;refine o1 ?_;refine nl ?_;refine sq ?_;refine sq ?_;refine rd [0,1] (fun i=>[].contains i) mixed ?_
   refine dv 0 ?_;refine dv 1 ?_;refine dv 2 ?_;refine dv 3 ?_;refine dv 4 ?_;refine dv 5 ?_;refine WD.split (t:=54) rfl rfl (fun h5=>?_) (fun h5=>?_)
   ·exact absurd (congrArg (fun n:Nat=>(n:Int)) hWe) h5
   refine dv 6 ?_;refine aU 7 ?_;refine dv 8 ?_;refine dv 9 ?_;refine dv 10 ?_;refine dv 11 ?_;refine dv 12 ?_;refine dv 13 ?_
   refine WD.split (t:=62) rfl rfl (fun h6=>?_) (fun h6=>?_)
   ·exact absurd (congrArg (fun n:Nat=>(n:Int)) hXe) h6
   refine dv 14 ?_;refine aU 16 ?_
   refine aI 15 rfl (GY (zs:=(aX (aY (aS ((zv a:Int):Rat) b (xs.map Fr4.q))))) (L:=1000000) hwz (by omega) (by omega)) KD ⟨a1 rfl,rfl⟩ (kF (cU (aX (aY (aS ((zv a:Int):Rat) b (xs.map Fr4.q)))))) ?_
   refine aI 17 rfl (Yx (k:=cU (aX (aY (aS ((zv a:Int):Rat) b (xs.map Fr4.q))))) (k':=zv a) (Zn.of (k:=cU (aX (aY (aS ((zv a:Int):Rat) b (xs.map Fr4.q))))) (Nat.le_trans hsl (by omega))) hzn hsum) vU ⟨aB rfl,aB rfl,rfl⟩ (.one (tv (.int .i64 0))) ?_
   refine df 18 ?_;refine df 19 ?_;refine aN ?_;refine bX rfl (fun h7=>?_) (fun h7=>?_)
   ·exact absurd rfl h7
   refine sk ?_;refine sq ?_;refine sq ?_;refine rl ?_;refine o1 ?_;refine nl ?_;refine bl ?_
   refine lp (γ:=Nat) (fun s=>cH [(2,.one (.t (sQ false xs))),(3,.one (.pt 0 0)),(7,.one (.t (sZ 24 (aX (aY (aS ((zv a:Int):Rat) b (xs.map Fr4.q))))))),(9,.one (.pt 1 0)),(11,.one (tv (.int .i64 ((s:Nat):Int))))]) (fun s=>[(⟨24,0,[tv (.bool a.s),.t (sU false a.x)]⟩:Ob),⟨42,0,[.t (.s false 48 4 (aS ((zv a:Int):Rat) b (xs.map Fr4.q)).length ((aS ((zv a:Int):Rat) b (xs.map Fr4.q)).flatMap dB))]⟩].map some) (fun s=>s≤(aX (aY (aS ((zv a:Int):Rat) b (xs.map Fr4.q)))).length) (fun s=>(aX (aY (aS ((zv a:Int):Rat) b (xs.map Fr4.q)))).length-s) 0 (Nat.zero_le _) (aL h0 [0,1] _ _ (by decide) ⟨rfl,rfl,rfl,rfl,rfl,trivial⟩ ⟨oe rfl rfl,oe rfl rfl,rfl⟩) ?_
   rintro i9 hi9;refine sq ?_;refine sq ?_;refine rl ?_;(iterate 4 refine o1 ?_);refine nl ?_;refine bX rfl (fun h8=>?_) (fun h8=>?_)
   ·refine sk ?_;refine sq ?_;refine bl ?_;refine sq ?_;have hi8:i9<(aY (aS ((zv a:Int):Rat) b (xs.map Fr4.q))).length:=by omega
    have hi7:i9<(aS ((zv a:Int):Rat) b (xs.map Fr4.q)).length:=by omega
    have hyl:=hws _ (nO hi8)
    have hxz:Sz 1000 (aO (aS ((zv a:Int):Rat) b (xs.map Fr4.q)) (i9)):=hXz _ (iH hi7)
    have hyz:Sz 1000000 (((aV (aY (aS ((zv a:Int):Rat) b (xs.map Fr4.q))) (i9)):Int):Rat):=yU hyl (by omega)
    have hdz:Sz 1001001 ((aO (aS ((zv a:Int):Rat) b (xs.map Fr4.q)) (i9))-(((aV (aY (aS ((zv a:Int):Rat) b (xs.map Fr4.q))) (i9)):Int):Rat)):=Ov hxz hyz
    have hMz:Sz 1001001 (eK [((aO (aS ((zv a:Int):Rat) b (xs.map Fr4.q)) (i9))-(((aV (aY (aS ((zv a:Int):Rat) b (xs.map Fr4.q))) (i9)):Int):Rat)),-((aO (aS ((zv a:Int):Rat) b (xs.map Fr4.q)) (i9))-(((aV (aY (aS ((zv a:Int):Rat) b (xs.map Fr4.q))) (i9)):Int):Rat))]):=HK hdz
    have hOz:Sz 2 ((1:Int):Rat):=kK (z:=1) (by omega) (by omega)
    obtain⟨hn1,hn2,hn3⟩:=hex.near i9 hi7
    refine rl ?_;refine o1 ?_;refine ld ?_;refine o1 ?_;refine o1 ?_
    refine fS ((dB (aO (aS ((zv a:Int):Rat) b (xs.map Fr4.q)) (i9)))) (GZ (l:=(aS ((zv a:Int):Rat) b (xs.map Fr4.q))) (k:=i9) (by omega)) ?_
    refine ca (nP (a:=.of (aO (aS ((zv a:Int):Rat) b (xs.map Fr4.q)) (i9))) (hXl _ (iH (by omega)))) Ef ⟨aB rfl,rfl⟩ (qF (.of (aO (aS ((zv a:Int):Rat) b (xs.map Fr4.q)) (i9)))) ?_
    refine al 2 ?_;refine st ?_;refine nl ?_;refine sq ?_;refine rl ?_;(iterate 3 refine o1 ?_)
    refine fS ((dD false (.of (aV (aY (aS ((zv a:Int):Rat) b (xs.map Fr4.q))) (i9))))) (uF (l:=(aY (aS ((zv a:Int):Rat) b (xs.map Fr4.q)))) (k:=i9) (by rw[dP]at*;omega)) ?_
    refine ca (HJ (a:=.of (aV (aY (aS ((zv a:Int):Rat) b (xs.map Fr4.q))) (i9))) (Nat.le_trans hyl (by omega))) KE ⟨aB rfl,rfl⟩ (kF (aV (aY (aS ((zv a:Int):Rat) b (xs.map Fr4.q))) (i9))) ?_
    refine ca (mT (n:=1) (by omega) (by omega)) qU ⟨a1 rfl,rfl⟩ (kF 1) ?_
    refine ca (DP (k:=(aV (aY (aS ((zv a:Int):Rat) b (xs.map Fr4.q))) (i9))) (Zn.of (k:=(aV (aY (aS ((zv a:Int):Rat) b (xs.map Fr4.q))) (i9))) (Nat.le_trans hyl (by omega)))) sS ⟨aB rfl,aB rfl,rfl⟩ (.tup [qF (.of (((aV (aY (aS ((zv a:Int):Rat) b (xs.map Fr4.q))) (i9)):Int):Rat)),.one (tv (.int .i64 0))]) ?_
    (iterate 3 refine o1 ?_);refine al 3 ?_;refine st ?_;refine o1 ?_;refine nl ?_;refine sq ?_;refine rl ?_;refine ld ?_;refine ld ?_
    refine ca (Ou (Qn.of (p:=(aO (aS ((zv a:Int):Rat) b (xs.map Fr4.q)) (i9))) hxz) (Qn.of (p:=(((aV (aY (aS ((zv a:Int):Rat) b (xs.map Fr4.q))) (i9)):Int):Rat)) hyz) (hxz.mono (by omega)) (hyz.mono (by omega))) DK ⟨aB rfl,aB rfl,rfl⟩ (qF (.of ((aO (aS ((zv a:Int):Rat) b (xs.map Fr4.q)) (i9))-(((aV (aY (aS ((zv a:Int):Rat) b (xs.map Fr4.q))) (i9)):Int):Rat)))) ?_
    refine al 4 ?_;refine st ?_;refine nl ?_;refine sq ?_;refine sq ?_;refine rd [0,1,2,3,4] (fun i=>[].contains i) mixed ?_
    refine aU 0 ?_;refine aU 1 ?_
    refine aI 2 rfl (Ot (Qn.of (p:=((aO (aS ((zv a:Int):Rat) b (xs.map Fr4.q)) (i9))-(((aV (aY (aS ((zv a:Int):Rat) b (xs.map Fr4.q))) (i9)):Int):Rat))) hdz)) DJ ⟨aB rfl,rfl⟩ (qF (.of (-((aO (aS ((zv a:Int):Rat) b (xs.map Fr4.q)) (i9))-(((aV (aY (aS ((zv a:Int):Rat) b (xs.map Fr4.q))) (i9)):Int):Rat))))) ?_
    refine qS (key:=5) 3 (by kernel_rfl) rfl rfl aA rfl ⟨rfl,rfl,rfl,rfl,rfl,trivial⟩ ?_
    refine sH (i:=97) (k:=5) (t:=50) (t':=50) (z:=4) (n:=2) (l:=(gD [((aO (aS ((zv a:Int):Rat) b (xs.map Fr4.q)) (i9))-(((aV (aY (aS ((zv a:Int):Rat) b (xs.map Fr4.q))) (i9)):Int):Rat)),-((aO (aS ((zv a:Int):Rat) b (xs.map Fr4.q)) (i9))-(((aV (aY (aS ((zv a:Int):Rat) b (xs.map Fr4.q))) (i9)):Int):Rat))]).flatMap (Fr4.tr false)) rfl rfl rfl rfl (.one .sl) (by rfl) (by rfl) ?_
    refine aI 4 rfl (DO (hdz.mono (M:=17179869184) (by omega))) KF ⟨a1 rfl,rfl⟩ (qF (.of (eK [((aO (aS ((zv a:Int):Rat) b (xs.map Fr4.q)) (i9))-(((aV (aY (aS ((zv a:Int):Rat) b (xs.map Fr4.q))) (i9)):Int):Rat)),-((aO (aS ((zv a:Int):Rat) b (xs.map Fr4.q)) (i9))-(((aV (aY (aS ((zv a:Int):Rat) b (xs.map Fr4.q))) (i9)):Int):Rat))]))) ?_
    refine aI 5 rfl (Td (n:=1) (by omega) (by omega)) KG ⟨a1 rfl,rfl⟩ (qF (.of ((1:Int):Rat))) ?_
    refine aI 6 rfl (xF (Qn.of (p:=(eK [((aO (aS ((zv a:Int):Rat) b (xs.map Fr4.q)) (i9))-(((aV (aY (aS ((zv a:Int):Rat) b (xs.map Fr4.q))) (i9)):Int):Rat)),-((aO (aS ((zv a:Int):Rat) b (xs.map Fr4.q)) (i9))-(((aV (aY (aS ((zv a:Int):Rat) b (xs.map Fr4.q))) (i9)):Int):Rat))])) hMz) (Qn.of (p:=((1:Int):Rat)) hOz) (hMz.mono (by omega)) (hOz.mono (by omega))) Lp ⟨aB rfl,aB rfl,rfl⟩ (.one (tv (.int .i64 ((eK [((aO (aS ((zv a:Int):Rat) b (xs.map Fr4.q)) (i9))-(((aV (aY (aS ((zv a:Int):Rat) b (xs.map Fr4.q))) (i9)):Int):Rat)),-((aO (aS ((zv a:Int):Rat) b (xs.map Fr4.q)) (i9))-(((aV (aY (aS ((zv a:Int):Rat) b (xs.map Fr4.q))) (i9)):Int):Rat))])-((1:Int):Rat)).num.sign))) ?_
    refine df 7 ?_;refine df 8 ?_;refine WD.split (t:=102) rfl rfl (fun h9=>?_) (fun h9=>?_)
    ·exact absurd h9 (HM hn1 hn2)
    refine aU 9 ?_
    refine aI 10 rfl (zE (Qn.of (p:=(aO (aS ((zv a:Int):Rat) b (xs.map Fr4.q)) (i9))) hxz)) Te ⟨aB rfl,rfl⟩ (.one (tv (.int .i64 (aO (aS ((zv a:Int):Rat) b (xs.map Fr4.q)) (i9)).num.sign))) ?_
    refine df 11 ?_;refine df 12 ?_;refine WD.split (t:=106) rfl rfl (fun h10=>?_) (fun h10=>?_)
    ·refine aU 13 ?_
     refine aI 14 rfl (zE (Qn.of (p:=(((aV (aY (aS ((zv a:Int):Rat) b (xs.map Fr4.q))) (i9)):Int):Rat)) hyz)) Te ⟨aB rfl,rfl⟩ (.one (tv (.int .i64 (((aV (aY (aS ((zv a:Int):Rat) b (xs.map Fr4.q))) (i9)):Int):Rat).num.sign))) ?_
     refine df 15 ?_;refine df 16 ?_;refine df 17 ?_;refine aN ?_;refine bX rfl (fun h11=>?_) (fun h11=>?_)
     ·exact absurd (by rw[hn3 (Rat.num_eq_zero.1 (Int.sign_eq_zero_iff_zero.1 h10))];rfl) h11
     refine sk ?_;refine sq ?_;refine rl ?_;refine o1 ?_;refine nl ?_;refine bl ?_
     refine lp (γ:=Nat) (fun s=>cH [(2,.one (.t (sQ false xs))),(3,.one (.pt 0 0)),(7,.one (.t (sZ 24 (aX (aY (aS ((zv a:Int):Rat) b (xs.map Fr4.q))))))),(9,.one (.pt 1 0)),(11,.one (tv (.int .i64 ((i9:Nat):Int)))),(16,.one (tv (.int .i64 ((s:Nat):Int))))]) (fun s=>[(⟨24,0,[tv (.bool a.s),.t (sU false a.x)]⟩:Ob),⟨42,0,[.t (.s false 48 4 (aS ((zv a:Int):Rat) b (xs.map Fr4.q)).length ((aS ((zv a:Int):Rat) b (xs.map Fr4.q)).flatMap dB))]⟩].map some) (fun s=>s≤(aX (aY (aS ((zv a:Int):Rat) b (xs.map Fr4.q)))).length) (fun s=>(aX (aY (aS ((zv a:Int):Rat) b (xs.map Fr4.q)))).length-s) 0 (Nat.zero_le _) (aL h0 [0,1] _ _ (by decide) ⟨rfl,rfl,rfl,rfl,rfl,rfl,trivial⟩ ⟨oe rfl rfl,oe rfl rfl,rfl⟩) ?_
     rintro k9 hk9;refine sq ?_;refine sq ?_;refine rl ?_;(iterate 4 refine o1 ?_);refine nl ?_;refine bX rfl (fun h12=>?_) (fun h12=>?_)
     ·refine sk ?_;refine sq ?_;refine bl ?_;refine sq ?_;refine rd [0,1] (fun i=>[].contains i) mixed ?_
      refine aU 0 ?_;refine aI 1 rfl (lY hzn.g) sE ⟨aB rfl,rfl⟩ (.one (tv (.int .i64 (zv a).sign))) ?_;refine df 2 ?_;refine df 3 ?_
      refine WD.split (t:=121) rfl rfl (fun h13=>?_) (fun h13=>?_)
      ·refine dv 4 ?_;refine dv 5 ?_;refine dv 6 ?_
       refine gE 7 ((Fr4.tr false) (bJ xs (i9))) (eR (f:=(Fr4.tr false)) (z:=4) (o:=0) (fun _=>rfl) (eN (by omega)) (Nat.le_of_ble_eq_true rfl) rfl) ?_
       refine dv 9 ?_;refine dv 10 ?_;refine dv 11 ?_
       refine gE 12 ((Fr4.tr false) (bJ xs (k9))) (eR (f:=(Fr4.tr false)) (z:=4) (o:=0) (fun _=>rfl) (eN (by omega)) (Nat.le_of_ble_eq_true rfl) rfl) ?_
       refine aI 8 rfl (nP (a:=(bJ xs (i9))) (hO _ (bP (by omega))).2.2) Ef ⟨aB rfl,rfl⟩ (qF (bJ xs (i9))) ?_
       refine aI 13 rfl (nP (a:=(bJ xs (k9))) (hO _ (bP (by omega))).2.2) Ef ⟨aB rfl,rfl⟩ (qF (bJ xs (k9))) ?_
       refine aI 14 rfl (xF ⟨hx _ (bP (by omega)),rfl⟩ ⟨hx _ (bP (by omega)),rfl⟩ ((hz _ (bP (by omega))).mono (by omega)) ((hz _ (bP (by omega))).mono (by omega))) Lp ⟨aB rfl,aB rfl,rfl⟩ (.one (tv (.int .i64 ((bJ xs (i9)).q-(bJ xs (k9)).q).num.sign))) ?_
       refine df 15 ?_;refine df 16 ?_;refine df 17 ?_;refine WD.split (t:=135) rfl rfl (fun h14=>?_) (fun h14=>?_)
       ·refine dv 18 ?_;refine dv 19 ?_;refine dv 20 ?_
        refine gE 21 ((Fr4.tr false) (bJ xs (i9))) (eR (f:=(Fr4.tr false)) (z:=4) (o:=0) (fun _=>rfl) (eN (by omega)) (Nat.le_of_ble_eq_true rfl) rfl) ?_
        refine aI 22 rfl (pJ (p:=(bJ xs (i9)).q) ⟨hx _ (bP (by omega)),rfl⟩) yS ⟨aB rfl,rfl⟩ (.one (tv (.int .i64 (bJ xs (i9)).q.num.sign))) ?_
        refine df 23 ?_;refine df 24 ?_;refine df 25 ?_;refine WD.split (t:=143) rfl rfl (fun h15=>?_) (fun h15=>?_)
        ·refine dv 26 ?_;refine dv 27 ?_;refine dv 28 ?_
         refine gE 29 ((dD false (.of (aV (aY (aS ((zv a:Int):Rat) b (xs.map Fr4.q))) (i9))))) (uF (l:=(aY (aS ((zv a:Int):Rat) b (xs.map Fr4.q)))) (k:=i9) (by rw[dP]at*;omega)) ?_
         refine dv 30 ?_;refine dv 31 ?_;refine dv 32 ?_
         refine gE 33 ((dD false (.of (aV (aY (aS ((zv a:Int):Rat) b (xs.map Fr4.q))) (k9))))) (uF (l:=(aY (aS ((zv a:Int):Rat) b (xs.map Fr4.q)))) (k:=k9) (by rw[dP]at*;omega)) ?_
         refine aI 34 rfl (sG (Zn.of (k:=(aV (aY (aS ((zv a:Int):Rat) b (xs.map Fr4.q))) (i9))) (Nat.le_trans hyl (by omega))) (Zn.of (k:=(aV (aY (aS ((zv a:Int):Rat) b (xs.map Fr4.q))) (k9))) (Nat.le_trans (hws _ (nO (by omega))) (by omega)))) vU ⟨aB rfl,aB rfl,rfl⟩ (.one (tv (.int .i64 ((aV (aY (aS ((zv a:Int):Rat) b (xs.map Fr4.q))) (i9))-(aV (aY (aS ((zv a:Int):Rat) b (xs.map Fr4.q))) (k9))).sign))) ?_
         refine df 35 ?_;refine df 36 ?_;refine aN ?_;refine bX rfl (fun h16=>?_) (fun h16=>?_)
         ·exact absurd (Int.sign_neg_iff.1 h16) (by have h9:=Ee (t:=zv a) (ws:=(xs.map Fr4.q)) (i:=i9) (k:=k9) hm9 (by rw[List.length_map];omega) (by rw[List.length_map];omega) (Ip h13) (by rw[gS (f:=Fr4.q) (by omega),gS (f:=Fr4.q) (by omega)];have h8:=nR.1 (Int.sign_pos_iff.1 h14);grind) (by rw[gS (f:=Fr4.q) (by omega)];exact nR.1 (Int.sign_pos_iff.1 h15));rw[←hb]at h9;omega)
         refine sk ?_;refine rl ?_;refine o1 ?_;refine o1 ?_;refine WL.cast (t:=117) (u':=.int .i64 ((k9+1:Nat):Int)) rfl (aK (by omega)) ?_
         refine o1 ?_;refine nl ?_;exact⟨k9+1,by omega,by omega,aL h0 [0,1] _ _ (by decide) ⟨rfl,rfl,rfl,rfl,rfl,rfl,trivial⟩ ⟨oe rfl rfl,oe rfl rfl,rfl⟩⟩
        refine bB 26 ?_;refine bB 27 ?_;refine bB 28 ?_;refine bB 29 ?_;refine bB 30 ?_;refine bB 31 ?_;refine bB 32 ?_;refine bB 33 ?_;refine bB 34 ?_
        refine bB 35 ?_;refine df 36 ?_;refine aN ?_;refine fK rfl ?_;refine sk ?_;refine rl ?_;refine o1 ?_;refine o1 ?_
        refine WL.cast (t:=117) (u':=.int .i64 ((k9+1:Nat):Int)) rfl (aK (by omega)) ?_
        refine o1 ?_;refine nl ?_;exact⟨k9+1,by omega,by omega,aL h0 [0,1] _ _ (by decide) ⟨rfl,rfl,rfl,rfl,rfl,rfl,trivial⟩ ⟨oe rfl rfl,oe rfl rfl,rfl⟩⟩
       refine bB 18 ?_;refine bB 19 ?_;refine bB 20 ?_;refine bB 21 ?_;refine bB 22 ?_;refine bB 23 ?_;refine df 24 ?_;refine df 25 ?_;refine bB 26 ?_
       refine bB 27 ?_;refine bB 28 ?_;refine bB 29 ?_;refine bB 30 ?_;refine bB 31 ?_;refine bB 32 ?_;refine bB 33 ?_;refine bB 34 ?_;refine bB 35 ?_
       refine df 36 ?_;refine aN ?_;refine fK rfl ?_;refine sk ?_;refine rl ?_;refine o1 ?_;refine o1 ?_
       refine WL.cast (t:=117) (u':=.int .i64 ((k9+1:Nat):Int)) rfl (aK (by omega)) ?_
       refine o1 ?_;refine nl ?_;exact⟨k9+1,by omega,by omega,aL h0 [0,1] _ _ (by decide) ⟨rfl,rfl,rfl,rfl,rfl,rfl,trivial⟩ ⟨oe rfl rfl,oe rfl rfl,rfl⟩⟩
      refine bB 4 ?_;refine bB 5 ?_;refine bB 6 ?_;refine bB 7 ?_;refine bB 9 ?_;refine bB 10 ?_;refine bB 11 ?_;refine bB 12 ?_;refine bB 8 ?_;refine bB 13 ?_
      refine bB 14 ?_;refine bB 15 ?_;refine df 16 ?_;refine df 17 ?_;refine bB 18 ?_;refine bB 19 ?_;refine bB 20 ?_;refine bB 21 ?_;refine bB 22 ?_
      refine bB 23 ?_;refine df 24 ?_;refine df 25 ?_;refine bB 26 ?_;refine bB 27 ?_;refine bB 28 ?_;refine bB 29 ?_;refine bB 30 ?_;refine bB 31 ?_
      refine bB 32 ?_;refine bB 33 ?_;refine bB 34 ?_;refine bB 35 ?_;refine df 36 ?_;refine aN ?_;refine fK rfl ?_;refine sk ?_;refine rl ?_;refine o1 ?_
      refine o1 ?_;refine WL.cast (t:=117) (u':=.int .i64 ((k9+1:Nat):Int)) rfl (aK (by omega)) ?_
      refine o1 ?_;refine nl ?_;exact⟨k9+1,by omega,by omega,aL h0 [0,1] _ _ (by decide) ⟨rfl,rfl,rfl,rfl,rfl,rfl,trivial⟩ ⟨oe rfl rfl,oe rfl rfl,rfl⟩⟩
     refine ex ?_;refine rl ?_;refine o1 ?_;refine o1 ?_;refine WL.cast (t:=74) (u':=.int .i64 ((i9+1:Nat):Int)) rfl (aK (by omega)) ?_
     refine o1 ?_;refine nl ?_;exact⟨i9+1,by omega,by omega,aL h0 [0,1] _ _ (by decide) ⟨rfl,rfl,rfl,rfl,rfl,trivial⟩ ⟨oe rfl rfl,oe rfl rfl,rfl⟩⟩
    refine bB 13 ?_;refine bB 14 ?_;refine bB 15 ?_;refine df 16 ?_;refine df 17 ?_;refine aN ?_;refine fK rfl ?_;refine sk ?_;refine sq ?_;refine rl ?_;refine o1 ?_
    refine nl ?_;refine bl ?_
    refine lp (γ:=Nat) (fun s=>cH [(2,.one (.t (sQ false xs))),(3,.one (.pt 0 0)),(7,.one (.t (sZ 24 (aX (aY (aS ((zv a:Int):Rat) b (xs.map Fr4.q))))))),(9,.one (.pt 1 0)),(11,.one (tv (.int .i64 ((i9:Nat):Int)))),(16,.one (tv (.int .i64 ((s:Nat):Int))))]) (fun s=>[(⟨24,0,[tv (.bool a.s),.t (sU false a.x)]⟩:Ob),⟨42,0,[.t (.s false 48 4 (aS ((zv a:Int):Rat) b (xs.map Fr4.q)).length ((aS ((zv a:Int):Rat) b (xs.map Fr4.q)).flatMap dB))]⟩].map some) (fun s=>s≤(aX (aY (aS ((zv a:Int):Rat) b (xs.map Fr4.q)))).length) (fun s=>(aX (aY (aS ((zv a:Int):Rat) b (xs.map Fr4.q)))).length-s) 0 (Nat.zero_le _) (aL h0 [0,1] _ _ (by decide) ⟨rfl,rfl,rfl,rfl,rfl,rfl,trivial⟩ ⟨oe rfl rfl,oe rfl rfl,rfl⟩) ?_
    rintro k9 hk9;refine sq ?_;refine sq ?_;refine rl ?_;(iterate 4 refine o1 ?_);refine nl ?_;refine bX rfl (fun h17=>?_) (fun h17=>?_)
    ·refine sk ?_;refine sq ?_;refine bl ?_;refine sq ?_;refine rd [0,1] (fun i=>[].contains i) mixed ?_
     refine aU 0 ?_;refine aI 1 rfl (lY hzn.g) sE ⟨aB rfl,rfl⟩ (.one (tv (.int .i64 (zv a).sign))) ?_;refine df 2 ?_;refine df 3 ?_
     refine WD.split (t:=121) rfl rfl (fun h18=>?_) (fun h18=>?_)
     ·refine dv 4 ?_;refine dv 5 ?_;refine dv 6 ?_
      refine gE 7 ((Fr4.tr false) (bJ xs (i9))) (eR (f:=(Fr4.tr false)) (z:=4) (o:=0) (fun _=>rfl) (eN (by omega)) (Nat.le_of_ble_eq_true rfl) rfl) ?_
      refine dv 9 ?_;refine dv 10 ?_;refine dv 11 ?_
      refine gE 12 ((Fr4.tr false) (bJ xs (k9))) (eR (f:=(Fr4.tr false)) (z:=4) (o:=0) (fun _=>rfl) (eN (by omega)) (Nat.le_of_ble_eq_true rfl) rfl) ?_
      refine aI 8 rfl (nP (a:=(bJ xs (i9))) (hO _ (bP (by omega))).2.2) Ef ⟨aB rfl,rfl⟩ (qF (bJ xs (i9))) ?_
      refine aI 13 rfl (nP (a:=(bJ xs (k9))) (hO _ (bP (by omega))).2.2) Ef ⟨aB rfl,rfl⟩ (qF (bJ xs (k9))) ?_
      refine aI 14 rfl (xF ⟨hx _ (bP (by omega)),rfl⟩ ⟨hx _ (bP (by omega)),rfl⟩ ((hz _ (bP (by omega))).mono (by omega)) ((hz _ (bP (by omega))).mono (by omega))) Lp ⟨aB rfl,aB rfl,rfl⟩ (.one (tv (.int .i64 ((bJ xs (i9)).q-(bJ xs (k9)).q).num.sign))) ?_
      refine df 15 ?_;refine df 16 ?_;refine df 17 ?_;refine WD.split (t:=135) rfl rfl (fun h19=>?_) (fun h19=>?_)
      ·refine dv 18 ?_;refine dv 19 ?_;refine dv 20 ?_
       refine gE 21 ((Fr4.tr false) (bJ xs (i9))) (eR (f:=(Fr4.tr false)) (z:=4) (o:=0) (fun _=>rfl) (eN (by omega)) (Nat.le_of_ble_eq_true rfl) rfl) ?_
       refine aI 22 rfl (pJ (p:=(bJ xs (i9)).q) ⟨hx _ (bP (by omega)),rfl⟩) yS ⟨aB rfl,rfl⟩ (.one (tv (.int .i64 (bJ xs (i9)).q.num.sign))) ?_
       refine df 23 ?_;refine df 24 ?_;refine df 25 ?_;refine WD.split (t:=143) rfl rfl (fun h20=>?_) (fun h20=>?_)
       ·refine dv 26 ?_;refine dv 27 ?_;refine dv 28 ?_
        refine gE 29 ((dD false (.of (aV (aY (aS ((zv a:Int):Rat) b (xs.map Fr4.q))) (i9))))) (uF (l:=(aY (aS ((zv a:Int):Rat) b (xs.map Fr4.q)))) (k:=i9) (by rw[dP]at*;omega)) ?_
        refine dv 30 ?_;refine dv 31 ?_;refine dv 32 ?_
        refine gE 33 ((dD false (.of (aV (aY (aS ((zv a:Int):Rat) b (xs.map Fr4.q))) (k9))))) (uF (l:=(aY (aS ((zv a:Int):Rat) b (xs.map Fr4.q)))) (k:=k9) (by rw[dP]at*;omega)) ?_
        refine aI 34 rfl (sG (Zn.of (k:=(aV (aY (aS ((zv a:Int):Rat) b (xs.map Fr4.q))) (i9))) (Nat.le_trans hyl (by omega))) (Zn.of (k:=(aV (aY (aS ((zv a:Int):Rat) b (xs.map Fr4.q))) (k9))) (Nat.le_trans (hws _ (nO (by omega))) (by omega)))) vU ⟨aB rfl,aB rfl,rfl⟩ (.one (tv (.int .i64 ((aV (aY (aS ((zv a:Int):Rat) b (xs.map Fr4.q))) (i9))-(aV (aY (aS ((zv a:Int):Rat) b (xs.map Fr4.q))) (k9))).sign))) ?_
        refine df 35 ?_;refine df 36 ?_;refine aN ?_;refine bX rfl (fun h21=>?_) (fun h21=>?_)
        ·exact absurd (Int.sign_neg_iff.1 h21) (by have h9:=Ee (t:=zv a) (ws:=(xs.map Fr4.q)) (i:=i9) (k:=k9) hm9 (by rw[List.length_map];omega) (by rw[List.length_map];omega) (Ip h18) (by rw[gS (f:=Fr4.q) (by omega),gS (f:=Fr4.q) (by omega)];have h8:=nR.1 (Int.sign_pos_iff.1 h19);grind) (by rw[gS (f:=Fr4.q) (by omega)];exact nR.1 (Int.sign_pos_iff.1 h20));rw[←hb]at h9;omega)
        refine sk ?_;refine rl ?_;refine o1 ?_;refine o1 ?_;refine WL.cast (t:=117) (u':=.int .i64 ((k9+1:Nat):Int)) rfl (aK (by omega)) ?_
        refine o1 ?_;refine nl ?_;exact⟨k9+1,by omega,by omega,aL h0 [0,1] _ _ (by decide) ⟨rfl,rfl,rfl,rfl,rfl,rfl,trivial⟩ ⟨oe rfl rfl,oe rfl rfl,rfl⟩⟩
       refine bB 26 ?_;refine bB 27 ?_;refine bB 28 ?_;refine bB 29 ?_;refine bB 30 ?_;refine bB 31 ?_;refine bB 32 ?_;refine bB 33 ?_;refine bB 34 ?_
       refine bB 35 ?_;refine df 36 ?_;refine aN ?_;refine fK rfl ?_;refine sk ?_;refine rl ?_;refine o1 ?_;refine o1 ?_
       refine WL.cast (t:=117) (u':=.int .i64 ((k9+1:Nat):Int)) rfl (aK (by omega)) ?_
       refine o1 ?_;refine nl ?_;exact⟨k9+1,by omega,by omega,aL h0 [0,1] _ _ (by decide) ⟨rfl,rfl,rfl,rfl,rfl,rfl,trivial⟩ ⟨oe rfl rfl,oe rfl rfl,rfl⟩⟩
      refine bB 18 ?_;refine bB 19 ?_;refine bB 20 ?_;refine bB 21 ?_;refine bB 22 ?_;refine bB 23 ?_;refine df 24 ?_;refine df 25 ?_;refine bB 26 ?_
      refine bB 27 ?_;refine bB 28 ?_;refine bB 29 ?_;refine bB 30 ?_;refine bB 31 ?_;refine bB 32 ?_;refine bB 33 ?_;refine bB 34 ?_;refine bB 35 ?_
      refine df 36 ?_;refine aN ?_;refine fK rfl ?_;refine sk ?_;refine rl ?_;refine o1 ?_;refine o1 ?_
      refine WL.cast (t:=117) (u':=.int .i64 ((k9+1:Nat):Int)) rfl (aK (by omega)) ?_
      refine o1 ?_;refine nl ?_;exact⟨k9+1,by omega,by omega,aL h0 [0,1] _ _ (by decide) ⟨rfl,rfl,rfl,rfl,rfl,rfl,trivial⟩ ⟨oe rfl rfl,oe rfl rfl,rfl⟩⟩
     refine bB 4 ?_;refine bB 5 ?_;refine bB 6 ?_;refine bB 7 ?_;refine bB 9 ?_;refine bB 10 ?_;refine bB 11 ?_;refine bB 12 ?_;refine bB 8 ?_;refine bB 13 ?_
     refine bB 14 ?_;refine bB 15 ?_;refine df 16 ?_;refine df 17 ?_;refine bB 18 ?_;refine bB 19 ?_;refine bB 20 ?_;refine bB 21 ?_;refine bB 22 ?_;refine bB 23 ?_
     refine df 24 ?_;refine df 25 ?_;refine bB 26 ?_;refine bB 27 ?_;refine bB 28 ?_;refine bB 29 ?_;refine bB 30 ?_;refine bB 31 ?_;refine bB 32 ?_;refine bB 33 ?_
     refine bB 34 ?_;refine bB 35 ?_;refine df 36 ?_;refine aN ?_;refine fK rfl ?_;refine sk ?_;refine rl ?_;refine o1 ?_;refine o1 ?_
     refine WL.cast (t:=117) (u':=.int .i64 ((k9+1:Nat):Int)) rfl (aK (by omega)) ?_
     refine o1 ?_;refine nl ?_;exact⟨k9+1,by omega,by omega,aL h0 [0,1] _ _ (by decide) ⟨rfl,rfl,rfl,rfl,rfl,rfl,trivial⟩ ⟨oe rfl rfl,oe rfl rfl,rfl⟩⟩
    refine ex ?_;refine rl ?_;refine o1 ?_;refine o1 ?_;refine WL.cast (t:=74) (u':=.int .i64 ((i9+1:Nat):Int)) rfl (aK (by omega)) ?_
    refine o1 ?_;refine nl ?_;exact⟨i9+1,by omega,by omega,aL h0 [0,1] _ _ (by decide) ⟨rfl,rfl,rfl,rfl,rfl,trivial⟩ ⟨oe rfl rfl,oe rfl rfl,rfl⟩⟩
   refine ex ?_;refine sq ?_;refine rl ?_;refine ca (qV) We rfl (.one (tv (.bool true))) ?_;refine o1 ?_;refine nl ?_;refine rt ?_;exact oF (.inl rfl) rfl (rfl)
  refine o1 ?_;refine o1 ?_;refine nl ?_;refine mP rfl ?_;refine sq ?_;refine rl ?_;refine ca (qV) We rfl (.one (tv (.bool true))) ?_;refine o1 ?_;refine nl ?_;refine rt ?_
  exact oF (.inl rfl) rfl (rfl)
 refine o1 ?_;refine o1 ?_;(iterate 3 refine eL ?_);refine o1 ?_;refine nl ?_;refine mP rfl ?_;refine sq ?_;refine rl ?_;refine ca (qV) We rfl (.one (tv (.bool true))) ?_
 refine o1 ?_;refine nl ?_;refine rt ?_;exact oF (.inl rfl) rfl (rfl)
end Go.Proofs.YthmgbcdidlkpoaaGreat
namespace Go.Proofs.YthmgbcdidlkpoaaGreat
open Go Go.ChangeShapes Go.WideShapes Go.ChangeAt Go.RowKit
theorem DQ:Tryz.prog.cellsOf 24=2:=by kernel_rfl
theorem Yy:Tryz.prog.cellsOf 4=1:=by kernel_rfl
theorem DR:Tryz.prog.cellsOf 51=1:=by kernel_rfl
theorem Tn:Tryz.prog.cellsOf 22=1:=by kernel_rfl
theorem Cl:Reads Tryz.prog 24 2 (fun l=>∃a:Zi,Lim 4294967296 a.x∧l=dD false a):=by
 have h1:=Yr Tryz.underlying4 Yy
 have h2:=Sv Tryz.underlying22 Tryz.underlying51 Tn DR rfl
 have h3:=Ba Tryz.underlying24 DQ (.cons rfl h1 (.cons rfl h2 .nil))
 exact(Ys h3).mono fun l ⟨s,xs,h4,h5⟩=>⟨⟨s,xs⟩,h4,h5⟩
theorem Iq {W:World}{N:Nat→Prop}:∀{l:List Tr}{us:List Value},FRL W N l us→ARL W N [] (l.map .t) us
 | [],us,h=>by simpa[FRL,ARL]using h
 | x::l,u::us,h=>by
  simp only[FRL]at h
  simp only[List.map_cons,ARL,AR]
  exact⟨h.1,Iq h.2⟩
 | _::_,[],h=>by simp only[FRL]at h
theorem BF {W:World}{l:List Tr}{cs:Array Value}(h:FRL W (vC W) l (Value.agg cs).cells.toList):bO W (vC W) [] (.agg (l.map .t)) (.agg cs):=⟨cs.toList,by simp,Iq (by simpa[Value.cells]using h)⟩
theorem Nb {W:World}{y:Tr}{u:Value}(hu:u.cells.toList=[u]) (h:FRL W (vC W) [y] u.cells.toList):bO W (vC W) [] (.one (.t y)) u:=by
 rw[hu]at h
 simp only[FRL,and_true]at h
 simpa only[bO,AR]using h
theorem DS:Tryz.prog.cellsOf 48=4:=by kernel_rfl
theorem Yz:Tryz.prog.cellsOf 25=1:=by kernel_rfl
theorem DT:Reads Tryz.prog 48 4 (fun l=>∃a:Fr4,LimF a∧l=a.tr false):=
 (Ba Tryz.underlying48 DS (.cons rfl Cl (.cons rfl Cl .nil))).mono fun l ⟨a,b,h1,⟨z,h2,h3⟩,b',c',h4,⟨y,h5,h6⟩,h7⟩=>⟨⟨z.s,z.x,y.s,y.x⟩,⟨h2,h5⟩,by rw[h1,h3,h4,h6,h7];rfl⟩
theorem Xi:Reads Tryz.prog 25 1 (fun l=>∃xs:List Fr4,(∀x∈xs,LimF x)∧l=[sQ false xs]):=by
 have h:=Do Tryz.underlying25 Yz (by omega) DT
 refine⟨h.1,fun H enc w fuel cs x hx=>?_⟩
 obtain⟨l,⟨rows,h1,rfl⟩,h3,h4⟩:=h.2 H enc w fuel cs x hx
 obtain⟨xs,e1,e2,e3⟩:=zA (Fr4.tr false) (fun a:Fr4=>LimF a) (rows:=rows) fun r hr=>(h1 r hr).1
 refine⟨_,⟨xs,e1,rfl⟩,rfl,?_⟩
 rw[e2,e3]at h4
 cases cs with
 | nil=>simp only[FRL]at h4
 | cons v cs=>
  simp only[sQ,FRL,FR]at h4⊢
  exact h4
theorem Za:Tryz.prog.cellsOf 3=1:=by kernel_rfl
theorem Xh:Reads Tryz.prog 3 1 (fun l=>∃n:Int,(-9223372036854775808≤n∧n≤9223372036854775807)∧l=[.v (.int .i64 n)]):=
 (Om Tryz.underlying3 Za).mono fun l ⟨n,h1,h2,h3⟩=>⟨n,⟨h2,h3⟩,h1⟩
end Go.Proofs.YthmgbcdidlkpoaaGreat
