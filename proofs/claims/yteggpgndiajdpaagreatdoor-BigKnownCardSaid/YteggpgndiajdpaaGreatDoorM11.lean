/- Part 11 of a proof: P4 to Rib4. -/
import Derived.Test.YteggpgndiajdpaaGreatDoorM10
import Derived.Test.YteggpgndiajdpaaGreatDoorM5
import Derived.Test.YteggpgndiajdpaaGreatDoorM7
import Derived.ProofKit
import Derived.ChangeOld
import Derived.Deep.Slices
import Derived.Deep.Strs
import Derived.Test.YteggpgndiajdpaaGreatDoorM9
import Derived.WalkKit
import Derived.OpenShut
import Derived.Below
import Derived.Carry
set_option maxRecDepth 100000
set_option linter.unusedVariables false
set_option linter.unusedSimpArgs false
namespace Go.Proofs.YteggpgndiajdpaaGreatDoor
open Go Go.RowKit
theorem jA {a b:Zi}{k k' K:Int}(ha:Zg a k) (hb:Zg b k') (e:k+k'=K):aL true Tryz.prog 36 [] [gF a,gF b] (aU (kO K)):=e▸yR ha hb
theorem fC {a b:Zi}{k k' K:Int}(ha:Zg a k) (hb:Zg b k') (e:k*k'=K):aL true Tryz.prog 37 [] [gF a,gF b] (aU (kO K)):=e▸uQ ha hb
theorem zW {a b:Zi}{k k' K:Int}(ha:Zg a k) (hb:Zg b k') (e:k-k'=K):aL true Tryz.prog 40 [] [gF a,gF b] (aU (kO K)):=e▸yS ha hb
theorem mU {a b:Zi}{k k' q r:Int}(ha:Zg a k) (hb:Zg b k') (h0:k'≠0) (hq:k.fdiv k'=q) (hr:k.fmod k'=r):aL true Tryz.prog 33 [] [gF a,gF b] (aU (.tup [kO q,kO r,.one (tv (.int .i64 0))])):=by
 subst hq hr
 exact tF ha hb h0
theorem tK {k:Int}(h:(fN k).length≤4096):aL true Tryz.prog 22 [] [.one (tv (.string (aW (fN k))))] (aU (.tup [kO k,.one (tv (.int .i64 0))])):=by
 have h1:=Dk (wJ k) (Nat.le_trans h (by omega))
 obtain⟨e1,e2⟩:=Yz h
 rw[e1,e2]at h1
 exact h1
theorem aG {k:Int}{L:Nat}(h:Ln k≤L) (hL:L≤137438953472):Zn (.of k) k:=Zn.of (Nat.le_trans h hL)
theorem iN {k:Int}{L:Nat}(h:Ln k≤L) (hL:L≤1000000):aL true Tryz.prog 35 [] [kF k,kF k] (aU (.one (tv (.bool true)))):=nU (a:=.of k) (k:=k) (Nat.le_trans h hL) (aG h (by omega))
set_option maxHeartbeats 4000000 in
theorem Iy {a b c:Zi}(hla:Lim 4294967296 a.x) (hlb:Lim 4294967296 b.x) (hlc:Lim 4294967296 c.x):aL true Tryz.prog 6 [] [gF a,gF b,gF c] (aU (.one (tv (.bool true)))):=by
 refine cF Tryz.func6 rfl Tryz.ntmps6 rfl aA rfl fun N9 w9 c0 h0=>?_
 refine sq ?_;refine rl ?_;refine bx 0 ?_;refine bx 1 ?_;refine bx 2 ?_;refine o1 ?_;refine nl ?_;refine sq ?_;refine sq ?_;refine rl ?_;refine o1 ?_;refine ld ?_;(iterate 3 refine o1 ?_)
 refine WL.split (t:=23) rfl (fun h1=>?_) (fun h1=>?_)
 ·(iterate 4 refine cW ?_);refine o1 ?_;refine o1 ?_;(iterate 4 refine cW ?_);refine o1 ?_;refine o1 ?_;(iterate 3 refine cW ?_);refine o1 ?_;refine o1 ?_;(iterate 3 refine cW ?_)
  refine o1 ?_;refine o1 ?_;(iterate 3 refine cW ?_);refine o1 ?_;refine nl ?_;refine iC rfl ?_;refine sq ?_;refine rl ?_;refine ca (dD) fU rfl (.one (tv (.bool true))) ?_
  refine o1 ?_;refine nl ?_;refine rt ?_;exact fS (.inl rfl) rfl (rfl)
 refine o1 ?_;refine ld ?_;(iterate 4 refine o1 ?_);refine WL.split (t:=29) rfl (fun h2=>?_) (fun h2=>?_)
 ·(iterate 4 refine cW ?_);refine o1 ?_;refine o1 ?_;(iterate 3 refine cW ?_);refine o1 ?_;refine o1 ?_;(iterate 3 refine cW ?_);refine o1 ?_;refine o1 ?_;(iterate 3 refine cW ?_)
  refine o1 ?_;refine nl ?_;refine iC rfl ?_;refine sq ?_;refine rl ?_;refine ca (dD) fU rfl (.one (tv (.bool true))) ?_;refine o1 ?_;refine nl ?_;refine rt ?_
  exact fS (.inl rfl) rfl (rfl)
 refine o1 ?_;refine ld ?_;(iterate 4 refine o1 ?_);refine WL.split (t:=35) rfl (fun h3=>?_) (fun h3=>?_)
 ·(iterate 3 refine cW ?_);refine o1 ?_;refine o1 ?_;(iterate 3 refine cW ?_);refine o1 ?_;refine o1 ?_;(iterate 3 refine cW ?_);refine o1 ?_;refine nl ?_;refine iC rfl ?_
  refine sq ?_;refine rl ?_;refine ca (dD) fU rfl (.one (tv (.bool true))) ?_;refine o1 ?_;refine nl ?_;refine rt ?_;exact fS (.inl rfl) rfl (rfl)
 refine ld ?_;refine ca (oK (a:=a) (k:=zv a) ⟨hla,by omega,rfl⟩) zX ⟨aB rfl,rfl⟩ (.one (tv (.bool (cK a.s a.x)))) ?_
 refine WL.splitb (t:=37) rfl (fun h4=>?_) (fun h4=>?_)
 ·(iterate 3 refine o1 ?_);refine ld ?_;refine ca (oK (a:=b) (k:=zv b) ⟨hlb,by omega,rfl⟩) zX ⟨aB rfl,rfl⟩ (.one (tv (.bool (cK b.s b.x)))) ?_
  refine WL.splitb (t:=42) rfl (fun h5=>?_) (fun h5=>?_)
  ·(iterate 3 refine o1 ?_);refine ld ?_;refine ca (oK (a:=c) (k:=zv c) ⟨hlc,by omega,rfl⟩) zX ⟨aB rfl,rfl⟩ (.one (tv (.bool (cK c.s c.x)))) ?_
   refine WL.splitb (t:=47) rfl (fun h6=>?_) (fun h6=>?_)
   ·refine o1 ?_;refine o1 ?_;refine nl ?_;refine eR rfl ?_;refine sk ?_;refine sq ?_;refine rl ?_;obtain⟨x,hka⟩:∃k,k=zv a:=⟨_,rfl⟩
    obtain rfl:=tJ (hka▸(show ZL 20 a from⟨hla,by omega⟩).n (by omega):Zn a x) h4
    have hlx:Ln x≤20:=show(Zi.of x).x.length≤20 by omega
    obtain⟨y,hkb⟩:∃k,k=zv b:=⟨_,rfl⟩
    obtain rfl:=tJ (hkb▸(show ZL 20 b from⟨hlb,by omega⟩).n (by omega):Zn b y) h5
    have hly:Ln y≤20:=show(Zi.of y).x.length≤20 by omega
    obtain⟨z,hkc⟩:∃k,k=zv c:=⟨_,rfl⟩
    obtain rfl:=tJ (hkc▸(show ZL 20 c from⟨hlc,by omega⟩).n (by omega):Zn c z) h6
    have hlz:Ln z≤20:=show(Zi.of z).x.length≤20 by omega
    rcases Classical.em (y=0)with rfl | hy0
    ·refine ld ?_;refine ld ?_
     refine ca (xP (aG (hlx) (by decide)).g (aG (show Ln 0≤20 from Nat.zero_le 20) (by decide)).g) lR ⟨aB rfl,aB rfl,rfl⟩ (.tup [kF 0,kF 0,.one (tv (.int .i64 20))]) ?_
     (iterate 4 refine o1 ?_);refine al 3 ?_;refine al 4 ?_;refine st ?_;refine st ?_;refine o1 ?_;refine nl ?_;refine sq ?_;refine sq ?_
     refine rd [0,1,2,3,4] (fun i=>[].contains i) mixed ?_
     refine dv 0 ?_;refine dv 1 ?_;refine WD.cast (t:=59) (u':=.bool false) rfl (congrArg Value.bool (decide_eq_false (by decide))) ?_
     refine aK 2 ?_;refine aD 3 rfl (dF (aG (show Ln 0≤20 from Nat.zero_le 20) (by decide)).g) eY ⟨aB rfl,rfl⟩ (.one (tv (.int .i64 (((0:Int)).sign)))) ?_
     refine df 4 ?_;refine WD.cast (t:=62) (u':=.bool true) rfl (congrArg Value.bool (decide_eq_true rfl)) ?_;refine df 5 ?_;refine df 6 ?_;refine dv 7 ?_;refine dv 8 ?_
     refine WD.cast (t:=66) (u':=.bool false) rfl (congrArg Value.bool (decide_eq_false (by decide))) ?_
     refine dv 9 ?_;refine eG 10 ?_;refine eG 11 ?_;refine eG 13 ?_;refine eG 15 ?_;refine eG 12 ?_;refine eG 14 ?_;refine eG 16 ?_;refine eG 17 ?_;refine eG 18 ?_
     refine eG 19 ?_;refine eG 20 ?_;refine eG 21 ?_;refine eG 22 ?_;refine eG 23 ?_;refine eG 25 ?_;refine eG 24 ?_;refine eG 26 ?_;refine eG 27 ?_;refine eG 28 ?_
     refine eG 29 ?_;refine eG 30 ?_;refine eG 31 ?_;refine eG 33 ?_;refine eG 32 ?_;refine eG 34 ?_;refine eG 35 ?_;refine eG 36 ?_;refine eG 37 ?_;refine dv 38 ?_
     refine df 39 ?_;refine aP ?_;refine eR rfl ?_;refine sk ?_;refine sq ?_;refine sq ?_;have hsb:=Nc (0-x)
     refine rd [0,1,2,3,4] (fun i=>[].contains i) mixed ?_
     refine aK 0 ?_;refine aK 1 ?_;refine aK 2 ?_;refine aK 5 ?_;refine aK 6 ?_;refine aK 8 ?_;refine aK 9 ?_
     refine aD 3 rfl (jA (K:=((0:Int))+(z)) (aG (show Ln 0≤20 from Nat.zero_le 20) (by decide)).g (aG (hlz) (by decide)).g rfl) kU ⟨aB rfl,aB rfl,rfl⟩ (kF (((0:Int))+(z))) ?_
     refine aD 4 rfl (fC (K:=(x)*(((0:Int))+(z))) (aG (hlx) (by decide)).g (aG (iG (show Ln 0≤20 from Nat.zero_le 20) (hlz)) (by decide)).g rfl) gL ⟨aB rfl,aB rfl,rfl⟩ (kF ((x)*(((0:Int))+(z)))) ?_
     refine aD 7 rfl (fC (K:=(x)*((0:Int))) (aG (hlx) (by decide)).g (aG (show Ln 0≤20 from Nat.zero_le 20) (by decide)).g rfl) gL ⟨aB rfl,aB rfl,rfl⟩ (kF ((x)*((0:Int)))) ?_
     refine aD 10 rfl (fC (K:=(x)*(z)) (aG (hlx) (by decide)).g (aG (hlz) (by decide)).g rfl) gL ⟨aB rfl,aB rfl,rfl⟩ (kF ((x)*(z))) ?_
     refine aD 11 rfl (jA (K:=(x)*(((0:Int))+(z))) (aG (gM (hlx) (show Ln 0≤20 from Nat.zero_le 20)) (by decide)).g (aG (gM (hlx) (hlz)) (by decide)).g (Int.mul_add _ _ _).symm) kU ⟨aB rfl,aB rfl,rfl⟩ (kF ((x)*(((0:Int))+(z)))) ?_
     refine aD 12 rfl (iN (k:=(x)*(((0:Int))+(z))) (gM (hlx) (iG (show Ln 0≤20 from Nat.zero_le 20) (hlz))) (by decide)) fT ⟨aB rfl,aB rfl,rfl⟩ (.one (tv (.bool true))) ?_
     refine df 13 ?_;refine df 14 ?_;refine aK 15 ?_;refine aK 16 ?_;refine aK 18 ?_;refine aK 19 ?_
     refine aD 17 rfl (fC (K:=(x)*((0:Int))) (aG (hlx) (by decide)).g (aG (show Ln 0≤20 from Nat.zero_le 20) (by decide)).g rfl) gL ⟨aB rfl,aB rfl,rfl⟩ (kF ((x)*((0:Int)))) ?_
     refine aD 20 rfl (fC (K:=(x)*((0:Int))) (aG (show Ln 0≤20 from Nat.zero_le 20) (by decide)).g (aG (hlx) (by decide)).g (Int.mul_comm _ _)) gL ⟨aB rfl,aB rfl,rfl⟩ (kF ((x)*((0:Int)))) ?_
     refine aD 21 rfl (iN (k:=(x)*((0:Int))) (gM (hlx) (show Ln 0≤20 from Nat.zero_le 20)) (by decide)) fT ⟨aB rfl,aB rfl,rfl⟩ (.one (tv (.bool true))) ?_
     refine df 22 ?_;refine df 23 ?_;refine df 24 ?_;refine aK 25 ?_;refine aK 26 ?_;refine aK 28 ?_;refine aK 30 ?_
     refine aD 27 rfl (jA (K:=(x)+((0:Int))) (aG (hlx) (by decide)).g (aG (show Ln 0≤20 from Nat.zero_le 20) (by decide)).g rfl) kU ⟨aB rfl,aB rfl,rfl⟩ (kF ((x)+((0:Int)))) ?_
     refine aD 29 rfl (zW (K:=x) (aG (iG (hlx) (show Ln 0≤20 from Nat.zero_le 20)) (by decide)).g (aG (show Ln 0≤20 from Nat.zero_le 20) (by decide)).g (by omega)) wK ⟨aB rfl,aB rfl,rfl⟩ (kF (x)) ?_
     refine aD 31 rfl (iN (k:=x) (hlx) (by decide)) fT ⟨aB rfl,aB rfl,rfl⟩ (.one (tv (.bool true))) ?_
     refine df 32 ?_;refine df 33 ?_;refine df 34 ?_;refine aK 35 ?_;refine aK 36 ?_;refine aK 38 ?_;refine aK 39 ?_
     refine aD 37 rfl (lC (aG (hlx) (by decide)).g (aG (show Ln 0≤20 from Nat.zero_le 20) (by decide)).g (Nat.le_trans (lK (hlx) (show Ln 0≤20 from Nat.zero_le 20)) (by decide))) nV ⟨aB rfl,aB rfl,rfl⟩ (.one (tv (.int .i64 (((x)-((0:Int))).sign)))) ?_
     refine aD 40 rfl (lC (aG (show Ln 0≤20 from Nat.zero_le 20) (by decide)).g (aG (hlx) (by decide)).g (Nat.le_trans (lK (show Ln 0≤20 from Nat.zero_le 20) (hlx)) (by decide))) nV ⟨aB rfl,aB rfl,rfl⟩ (.one (tv (.int .i64 ((((0:Int))-(x)).sign)))) ?_
     refine df 41 ?_;refine df 42 ?_;refine WD.cast (t:=140) (u':=.bool false) rfl (congrArg Value.bool (decide_eq_false fun h=>h (wI x (0:Int)))) ?_
     refine df 43 ?_;refine aP ?_;refine eR rfl ?_;refine sk ?_;refine sq ?_;refine rl ?_;refine ld ?_
     refine ca (pD (aG (hlx) (by decide)) (Nat.le_trans (hlx) (by decide))) tH ⟨aB rfl,rfl⟩ (.one (tv (.string (aW (fN x))))) ?_
     refine ca (tK (k:=x) (Nat.le_trans (rV hlx (by decide)) (by decide))) Ga ⟨a1 rfl,rfl⟩ (.tup [kF x,.one (tv (.int .i64 0))]) ?_
     (iterate 3 refine o1 ?_);refine al 5 ?_;refine st ?_;refine o1 ?_;refine nl ?_;refine sq ?_;refine sq ?_;refine rl ?_;refine o1 ?_;refine o1 ?_
     refine WL.cast (t:=149) (u':=.bool false) rfl (congrArg Value.bool (decide_eq_false (by decide))) ?_
     refine o1 ?_;refine ld ?_;refine ld ?_;refine ca (iN (k:=x) (hlx) (by decide)) fT ⟨aB rfl,aB rfl,rfl⟩ (.one (tv (.bool true))) ?_
     refine o1 ?_;refine o1 ?_;refine nl ?_;refine eR rfl ?_;refine sk ?_;refine sq ?_;refine rl ?_;refine ld ?_;refine ld ?_
     refine ca (uR (aG (hlx) (by decide)).g (aG (show Ln 0≤20 from Nat.zero_le 20) (by decide)).g) wF ⟨aB rfl,aB rfl,rfl⟩ (kF ((Int.gcd x 0:Nat):Int)) ?_
     refine al 6 ?_;refine st ?_;refine nl ?_;refine sq ?_;refine sq ?_;refine rl ?_;refine ld ?_
     refine ca (dF (aG (hJ (hlx) (show Ln 0≤20 from Nat.zero_le 20)) (by decide)).g) eY ⟨aB rfl,rfl⟩ (.one (tv (.int .i64 ((((Int.gcd x 0:Nat):Int)).sign)))) ?_
     refine o1 ?_;refine nl ?_;refine bU rfl (fun h7=>?_) (fun h7=>?_)
     ·refine sq ?_;refine rl ?_;refine ld ?_;refine ca (dF (aG (hlx) (by decide)).g) eY ⟨aB rfl,rfl⟩ (.one (tv (.int .i64 ((x).sign)))) ?_
      refine o1 ?_;refine WL.cast (t:=164) (u':=.bool true) rfl (congrArg Value.bool (decide_eq_true (lX.2 (zQ (lX.1 h7))))) ?_;refine o1 ?_;refine ld ?_
      refine ca (dF (aG (show Ln 0≤20 from Nat.zero_le 20) (by decide)).g) eY ⟨aB rfl,rfl⟩ (.one (tv (.int .i64 (((0:Int)).sign)))) ?_
      refine o1 ?_;refine WL.cast (t:=168) (u':=.bool true) rfl (congrArg Value.bool (decide_eq_true (lX.2 (zR (lX.1 h7))))) ?_;refine o1 ?_;refine o1 ?_
      refine ca (dD) fU rfl (.one (tv (.bool true))) ?_;refine o1 ?_;refine o1 ?_;refine nl ?_;refine rt ?_;exact fS (.inl rfl) rfl (rfl)
     refine sk ?_;refine sq ?_;have hg0:((Int.gcd x 0:Nat):Int)≠0:=fun e=>h7 (lX.2 e)
     refine rl ?_;refine ld ?_;refine ld ?_
     refine ca (mU (q:=(x).fdiv ((Int.gcd x 0:Nat):Int)) (r:=(0:Int)) (aG (hlx) (by decide)).g (aG (hJ (hlx) (show Ln 0≤20 from Nat.zero_le 20)) (by decide)).g hg0 rfl (zS x 0)) lR ⟨aB rfl,aB rfl,rfl⟩ (.tup [kF ((x).fdiv ((Int.gcd x 0:Nat):Int)),kF ((0:Int)),.one (tv (.int .i64 0))]) ?_
     (iterate 4 refine o1 ?_);refine al 7 ?_;refine al 8 ?_;refine st ?_;refine st ?_;refine o1 ?_;refine nl ?_;refine sq ?_;refine rl ?_;refine ld ?_;refine ld ?_
     refine ca (mU (q:=((0:Int)).fdiv ((Int.gcd x 0:Nat):Int)) (r:=(0:Int)) (aG (show Ln 0≤20 from Nat.zero_le 20) (by decide)).g (aG (hJ (hlx) (show Ln 0≤20 from Nat.zero_le 20)) (by decide)).g hg0 rfl (zU x 0)) lR ⟨aB rfl,aB rfl,rfl⟩ (.tup [kF (((0:Int)).fdiv ((Int.gcd x 0:Nat):Int)),kF ((0:Int)),.one (tv (.int .i64 0))]) ?_
     (iterate 4 refine o1 ?_);refine al 9 ?_;refine al 10 ?_;refine st ?_;refine st ?_;refine o1 ?_;refine nl ?_;refine sq ?_;refine rl ?_;refine ld ?_
     refine ca (dF (aG (show Ln 0≤20 from Nat.zero_le 20) (by decide)).g) eY ⟨aB rfl,rfl⟩ (.one (tv (.int .i64 (((0:Int)).sign)))) ?_
     refine o1 ?_;refine WL.cast (t:=189) (u':=.bool true) rfl (congrArg Value.bool (decide_eq_true rfl)) ?_;refine o1 ?_;refine ld ?_
     refine ca (dF (aG (show Ln 0≤20 from Nat.zero_le 20) (by decide)).g) eY ⟨aB rfl,rfl⟩ (.one (tv (.int .i64 (((0:Int)).sign)))) ?_
     refine o1 ?_;refine WL.cast (t:=193) (u':=.bool true) rfl (congrArg Value.bool (decide_eq_true rfl)) ?_;refine o1 ?_;refine o1 ?_;refine ld ?_
     refine ca (dF (aG (hJ (hlx) (show Ln 0≤20 from Nat.zero_le 20)) (by decide)).g) eY ⟨aB rfl,rfl⟩ (.one (tv (.int .i64 ((((Int.gcd x 0:Nat):Int)).sign)))) ?_
     refine o1 ?_;refine WL.cast (t:=198) (u':=.bool true) rfl (congrArg Value.bool (decide_eq_true (zV hg0))) ?_;refine o1 ?_;refine o1 ?_
     refine ca (dD) fU rfl (.one (tv (.bool true))) ?_;refine o1 ?_;refine o1 ?_;refine nl ?_;refine rt ?_;exact fS (.inl rfl) rfl (rfl)
    refine ld ?_;refine ld ?_
    refine ca (mU (q:=x.fdiv y) (r:=x.fmod y) (aG (hlx) (by decide)).g (aG (hly) (by decide)).g hy0 rfl (rfl)) lR ⟨aB rfl,aB rfl,rfl⟩ (.tup [kF (x.fdiv y),kF (x.fmod y),.one (tv (.int .i64 0))]) ?_
    (iterate 4 refine o1 ?_);refine al 3 ?_;refine al 4 ?_;refine st ?_;refine st ?_;refine o1 ?_;refine nl ?_;refine sq ?_;refine sq ?_
    refine rd [0,1,2,3,4] (fun i=>[].contains i) mixed ?_
    refine dv 0 ?_;refine dv 1 ?_;refine WD.cast (t:=59) (u':=.bool true) rfl (congrArg Value.bool (decide_eq_true rfl)) ?_;refine aK 2 ?_
    refine aD 3 rfl (dF (aG (hly) (by decide)).g) eY ⟨aB rfl,rfl⟩ (.one (tv (.int .i64 ((y).sign)))) ?_
    refine df 4 ?_;refine WD.cast (t:=62) (u':=.bool false) rfl (congrArg Value.bool (decide_eq_false fun h=>hy0 (lX.1 h))) ?_
    refine df 5 ?_;refine df 6 ?_;refine dv 7 ?_;refine dv 8 ?_;refine WD.cast (t:=66) (u':=.bool true) rfl (congrArg Value.bool (decide_eq_true rfl)) ?_;refine dv 9 ?_
    refine aK 10 ?_;refine aK 11 ?_;refine aK 13 ?_;refine aK 15 ?_
    refine aD 12 rfl (fC (K:=x.fdiv y*y) (aG (Dl (hlx) (by decide)) (by decide)).g (aG (hly) (by decide)).g rfl) gL ⟨aB rfl,aB rfl,rfl⟩ (kF (x.fdiv y*y)) ?_
    refine aD 14 rfl (jA (K:=x) (aG (gM (Dl (hlx) (by decide)) (hly)) (by decide)).g (aG (jT (Nat.le_of_lt (fZ hy0)) (hly)) (by decide)).g (Yy x y)) kU ⟨aB rfl,aB rfl,rfl⟩ (kF (x)) ?_
    refine aD 16 rfl (iN (k:=x) (hlx) (by decide)) fT ⟨aB rfl,aB rfl,rfl⟩ (.one (tv (.bool true))) ?_
    refine df 17 ?_;refine df 18 ?_;refine aK 19 ?_
    refine aD 20 rfl (dF (aG (jT (Nat.le_of_lt (fZ hy0)) (hly)) (by decide)).g) eY ⟨aB rfl,rfl⟩ (.one (tv (.int .i64 ((x.fmod y).sign)))) ?_
    refine df 21 ?_;refine df 22 ?_;refine WD.split (t:=80) rfl rfl (fun h8=>?_) (fun h8=>?_)
    ·refine aK 23 ?_;refine aK 25 ?_
     refine aD 24 rfl (dF (aG (jT (Nat.le_of_lt (fZ hy0)) (hly)) (by decide)).g) eY ⟨aB rfl,rfl⟩ (.one (tv (.int .i64 ((x.fmod y).sign)))) ?_
     refine aD 26 rfl (dF (aG (hly) (by decide)).g) eY ⟨aB rfl,rfl⟩ (.one (tv (.int .i64 ((y).sign)))) ?_
     refine df 27 ?_;refine WD.cast (t:=85) (u':=.bool false) rfl (congrArg Value.bool (decide_eq_false fun h=>h (Rh hy0 h8))) ?_
     refine df 28 ?_;refine df 29 ?_;refine df 30 ?_;refine aK 31 ?_;refine aK 33 ?_
     refine aD 32 rfl (uT (aG (jT (Nat.le_of_lt (fZ hy0)) (hly)) (by decide)).g) zY ⟨aB rfl,rfl⟩ (kF (((x.fmod y).natAbs:Nat):Int)) ?_
     refine aD 34 rfl (uT (aG (hly) (by decide)).g) zY ⟨aB rfl,rfl⟩ (kF (((y).natAbs:Nat):Int)) ?_
     refine aD 35 rfl (lC (aG (jU (jT (Nat.le_of_lt (fZ hy0)) (hly))) (by decide)).g (aG (jU (hly)) (by decide)).g (Nat.le_trans (lK (jU (jT (Nat.le_of_lt (fZ hy0)) (hly))) (jU (hly))) (by decide))) nV ⟨aB rfl,aB rfl,rfl⟩ (.one (tv (.int .i64 ((((((x.fmod y).natAbs:Nat):Int))-((((y).natAbs:Nat):Int))).sign)))) ?_
     refine df 36 ?_;refine WD.cast (t:=94) (u':=.bool false) rfl (congrArg Value.bool (decide_eq_false (Ix (fZ hy0)))) ?_;refine df 37 ?_;refine df 38 ?_;refine df 39 ?_
     refine aP ?_;refine eR rfl ?_;refine sk ?_;refine sq ?_;refine sq ?_;have hsb:=Nc (y-x)
     refine rd [0,1,2,3,4] (fun i=>[].contains i) mixed ?_
     refine aK 0 ?_;refine aK 1 ?_;refine aK 2 ?_;refine aK 5 ?_;refine aK 6 ?_;refine aK 8 ?_;refine aK 9 ?_
     refine aD 3 rfl (jA (K:=(y)+(z)) (aG (hly) (by decide)).g (aG (hlz) (by decide)).g rfl) kU ⟨aB rfl,aB rfl,rfl⟩ (kF ((y)+(z))) ?_
     refine aD 4 rfl (fC (K:=(x)*((y)+(z))) (aG (hlx) (by decide)).g (aG (iG (hly) (hlz)) (by decide)).g rfl) gL ⟨aB rfl,aB rfl,rfl⟩ (kF ((x)*((y)+(z)))) ?_
     refine aD 7 rfl (fC (K:=(x)*(y)) (aG (hlx) (by decide)).g (aG (hly) (by decide)).g rfl) gL ⟨aB rfl,aB rfl,rfl⟩ (kF ((x)*(y))) ?_
     refine aD 10 rfl (fC (K:=(x)*(z)) (aG (hlx) (by decide)).g (aG (hlz) (by decide)).g rfl) gL ⟨aB rfl,aB rfl,rfl⟩ (kF ((x)*(z))) ?_
     refine aD 11 rfl (jA (K:=(x)*((y)+(z))) (aG (gM (hlx) (hly)) (by decide)).g (aG (gM (hlx) (hlz)) (by decide)).g (Int.mul_add _ _ _).symm) kU ⟨aB rfl,aB rfl,rfl⟩ (kF ((x)*((y)+(z)))) ?_
     refine aD 12 rfl (iN (k:=(x)*((y)+(z))) (gM (hlx) (iG (hly) (hlz))) (by decide)) fT ⟨aB rfl,aB rfl,rfl⟩ (.one (tv (.bool true))) ?_
     refine df 13 ?_;refine df 14 ?_;refine aK 15 ?_;refine aK 16 ?_;refine aK 18 ?_;refine aK 19 ?_
     refine aD 17 rfl (fC (K:=(x)*(y)) (aG (hlx) (by decide)).g (aG (hly) (by decide)).g rfl) gL ⟨aB rfl,aB rfl,rfl⟩ (kF ((x)*(y))) ?_
     refine aD 20 rfl (fC (K:=(x)*(y)) (aG (hly) (by decide)).g (aG (hlx) (by decide)).g (Int.mul_comm _ _)) gL ⟨aB rfl,aB rfl,rfl⟩ (kF ((x)*(y))) ?_
     refine aD 21 rfl (iN (k:=(x)*(y)) (gM (hlx) (hly)) (by decide)) fT ⟨aB rfl,aB rfl,rfl⟩ (.one (tv (.bool true))) ?_
     refine df 22 ?_;refine df 23 ?_;refine df 24 ?_;refine aK 25 ?_;refine aK 26 ?_;refine aK 28 ?_;refine aK 30 ?_
     refine aD 27 rfl (jA (K:=(x)+(y)) (aG (hlx) (by decide)).g (aG (hly) (by decide)).g rfl) kU ⟨aB rfl,aB rfl,rfl⟩ (kF ((x)+(y))) ?_
     refine aD 29 rfl (zW (K:=x) (aG (iG (hlx) (hly)) (by decide)).g (aG (hly) (by decide)).g (by omega)) wK ⟨aB rfl,aB rfl,rfl⟩ (kF (x)) ?_
     refine aD 31 rfl (iN (k:=x) (hlx) (by decide)) fT ⟨aB rfl,aB rfl,rfl⟩ (.one (tv (.bool true))) ?_
     refine df 32 ?_;refine df 33 ?_;refine df 34 ?_;refine aK 35 ?_;refine aK 36 ?_;refine aK 38 ?_;refine aK 39 ?_
     refine aD 37 rfl (lC (aG (hlx) (by decide)).g (aG (hly) (by decide)).g (Nat.le_trans (lK (hlx) (hly)) (by decide))) nV ⟨aB rfl,aB rfl,rfl⟩ (.one (tv (.int .i64 (((x)-(y)).sign)))) ?_
     refine aD 40 rfl (lC (aG (hly) (by decide)).g (aG (hlx) (by decide)).g (Nat.le_trans (lK (hly) (hlx)) (by decide))) nV ⟨aB rfl,aB rfl,rfl⟩ (.one (tv (.int .i64 (((y)-(x)).sign)))) ?_
     refine df 41 ?_;refine df 42 ?_;refine WD.cast (t:=140) (u':=.bool false) rfl (congrArg Value.bool (decide_eq_false fun h=>h (wI x y))) ?_
     refine df 43 ?_;refine aP ?_;refine eR rfl ?_;refine sk ?_;refine sq ?_;refine rl ?_;refine ld ?_
     refine ca (pD (aG (hlx) (by decide)) (Nat.le_trans (hlx) (by decide))) tH ⟨aB rfl,rfl⟩ (.one (tv (.string (aW (fN x))))) ?_
     refine ca (tK (k:=x) (Nat.le_trans (rV hlx (by decide)) (by decide))) Ga ⟨a1 rfl,rfl⟩ (.tup [kF x,.one (tv (.int .i64 0))]) ?_
     (iterate 3 refine o1 ?_);refine al 5 ?_;refine st ?_;refine o1 ?_;refine nl ?_;refine sq ?_;refine sq ?_;refine rl ?_;refine o1 ?_;refine o1 ?_
     refine WL.cast (t:=149) (u':=.bool false) rfl (congrArg Value.bool (decide_eq_false (by decide))) ?_
     refine o1 ?_;refine ld ?_;refine ld ?_;refine ca (iN (k:=x) (hlx) (by decide)) fT ⟨aB rfl,aB rfl,rfl⟩ (.one (tv (.bool true))) ?_
     refine o1 ?_;refine o1 ?_;refine nl ?_;refine eR rfl ?_;refine sk ?_;refine sq ?_;refine rl ?_;refine ld ?_;refine ld ?_
     refine ca (uR (aG (hlx) (by decide)).g (aG (hly) (by decide)).g) wF ⟨aB rfl,aB rfl,rfl⟩ (kF ((Int.gcd x y:Nat):Int)) ?_
     refine al 6 ?_;refine st ?_;refine nl ?_;refine sq ?_;refine sq ?_;refine rl ?_;refine ld ?_
     refine ca (dF (aG (hJ (hlx) (hly)) (by decide)).g) eY ⟨aB rfl,rfl⟩ (.one (tv (.int .i64 ((((Int.gcd x y:Nat):Int)).sign)))) ?_
     refine o1 ?_;refine nl ?_;refine bU rfl (fun h9=>?_) (fun h9=>?_)
     ·refine sq ?_;refine rl ?_;refine ld ?_;refine ca (dF (aG (hlx) (by decide)).g) eY ⟨aB rfl,rfl⟩ (.one (tv (.int .i64 ((x).sign)))) ?_
      refine o1 ?_;refine WL.cast (t:=164) (u':=.bool true) rfl (congrArg Value.bool (decide_eq_true (lX.2 (zQ (lX.1 h9))))) ?_;refine o1 ?_;refine ld ?_
      refine ca (dF (aG (hly) (by decide)).g) eY ⟨aB rfl,rfl⟩ (.one (tv (.int .i64 ((y).sign)))) ?_
      refine o1 ?_;refine WL.cast (t:=168) (u':=.bool true) rfl (congrArg Value.bool (decide_eq_true (lX.2 (zR (lX.1 h9))))) ?_;refine o1 ?_;refine o1 ?_
      refine ca (dD) fU rfl (.one (tv (.bool true))) ?_;refine o1 ?_;refine o1 ?_;refine nl ?_;refine rt ?_;exact fS (.inl rfl) rfl (rfl)
     refine sk ?_;refine sq ?_;have hg0:((Int.gcd x y:Nat):Int)≠0:=fun e=>h9 (lX.2 e)
     refine rl ?_;refine ld ?_;refine ld ?_
     refine ca (mU (q:=(x).fdiv ((Int.gcd x y:Nat):Int)) (r:=(0:Int)) (aG (hlx) (by decide)).g (aG (hJ (hlx) (hly)) (by decide)).g hg0 rfl (zS x y)) lR ⟨aB rfl,aB rfl,rfl⟩ (.tup [kF ((x).fdiv ((Int.gcd x y:Nat):Int)),kF ((0:Int)),.one (tv (.int .i64 0))]) ?_
     (iterate 4 refine o1 ?_);refine al 7 ?_;refine al 8 ?_;refine st ?_;refine st ?_;refine o1 ?_;refine nl ?_;refine sq ?_;refine rl ?_;refine ld ?_;refine ld ?_
     refine ca (mU (q:=(y).fdiv ((Int.gcd x y:Nat):Int)) (r:=(0:Int)) (aG (hly) (by decide)).g (aG (hJ (hlx) (hly)) (by decide)).g hg0 rfl (zU x y)) lR ⟨aB rfl,aB rfl,rfl⟩ (.tup [kF ((y).fdiv ((Int.gcd x y:Nat):Int)),kF ((0:Int)),.one (tv (.int .i64 0))]) ?_
     (iterate 4 refine o1 ?_);refine al 9 ?_;refine al 10 ?_;refine st ?_;refine st ?_;refine o1 ?_;refine nl ?_;refine sq ?_;refine rl ?_;refine ld ?_
     refine ca (dF (aG (show Ln 0≤20 from Nat.zero_le 20) (by decide)).g) eY ⟨aB rfl,rfl⟩ (.one (tv (.int .i64 (((0:Int)).sign)))) ?_
     refine o1 ?_;refine WL.cast (t:=189) (u':=.bool true) rfl (congrArg Value.bool (decide_eq_true rfl)) ?_;refine o1 ?_;refine ld ?_
     refine ca (dF (aG (show Ln 0≤20 from Nat.zero_le 20) (by decide)).g) eY ⟨aB rfl,rfl⟩ (.one (tv (.int .i64 (((0:Int)).sign)))) ?_
     refine o1 ?_;refine WL.cast (t:=193) (u':=.bool true) rfl (congrArg Value.bool (decide_eq_true rfl)) ?_;refine o1 ?_;refine o1 ?_;refine ld ?_
     refine ca (dF (aG (hJ (hlx) (hly)) (by decide)).g) eY ⟨aB rfl,rfl⟩ (.one (tv (.int .i64 ((((Int.gcd x y:Nat):Int)).sign)))) ?_
     refine o1 ?_;refine WL.cast (t:=198) (u':=.bool true) rfl (congrArg Value.bool (decide_eq_true (zV hg0))) ?_;refine o1 ?_;refine o1 ?_
     refine ca (dD) fU rfl (.one (tv (.bool true))) ?_;refine o1 ?_;refine o1 ?_;refine nl ?_;refine rt ?_;exact fS (.inl rfl) rfl (rfl)
    refine eG 23 ?_;refine eG 25 ?_;refine eG 24 ?_;refine eG 26 ?_;refine eG 27 ?_;refine df 28 ?_;refine df 29 ?_;refine df 30 ?_;refine aK 31 ?_;refine aK 33 ?_
    refine aD 32 rfl (uT (aG (jT (Nat.le_of_lt (fZ hy0)) (hly)) (by decide)).g) zY ⟨aB rfl,rfl⟩ (kF (((x.fmod y).natAbs:Nat):Int)) ?_
    refine aD 34 rfl (uT (aG (hly) (by decide)).g) zY ⟨aB rfl,rfl⟩ (kF (((y).natAbs:Nat):Int)) ?_
    refine aD 35 rfl (lC (aG (jU (jT (Nat.le_of_lt (fZ hy0)) (hly))) (by decide)).g (aG (jU (hly)) (by decide)).g (Nat.le_trans (lK (jU (jT (Nat.le_of_lt (fZ hy0)) (hly))) (jU (hly))) (by decide))) nV ⟨aB rfl,aB rfl,rfl⟩ (.one (tv (.int .i64 ((((((x.fmod y).natAbs:Nat):Int))-((((y).natAbs:Nat):Int))).sign)))) ?_
    refine df 36 ?_;refine WD.cast (t:=94) (u':=.bool false) rfl (congrArg Value.bool (decide_eq_false (Ix (fZ hy0)))) ?_;refine df 37 ?_;refine df 38 ?_;refine df 39 ?_
    refine aP ?_;refine eR rfl ?_;refine sk ?_;refine sq ?_;refine sq ?_;have hsb:=Nc (y-x)
    refine rd [0,1,2,3,4] (fun i=>[].contains i) mixed ?_
    refine aK 0 ?_;refine aK 1 ?_;refine aK 2 ?_;refine aK 5 ?_;refine aK 6 ?_;refine aK 8 ?_;refine aK 9 ?_
    refine aD 3 rfl (jA (K:=(y)+(z)) (aG (hly) (by decide)).g (aG (hlz) (by decide)).g rfl) kU ⟨aB rfl,aB rfl,rfl⟩ (kF ((y)+(z))) ?_
    refine aD 4 rfl (fC (K:=(x)*((y)+(z))) (aG (hlx) (by decide)).g (aG (iG (hly) (hlz)) (by decide)).g rfl) gL ⟨aB rfl,aB rfl,rfl⟩ (kF ((x)*((y)+(z)))) ?_
    refine aD 7 rfl (fC (K:=(x)*(y)) (aG (hlx) (by decide)).g (aG (hly) (by decide)).g rfl) gL ⟨aB rfl,aB rfl,rfl⟩ (kF ((x)*(y))) ?_
    refine aD 10 rfl (fC (K:=(x)*(z)) (aG (hlx) (by decide)).g (aG (hlz) (by decide)).g rfl) gL ⟨aB rfl,aB rfl,rfl⟩ (kF ((x)*(z))) ?_
    refine aD 11 rfl (jA (K:=(x)*((y)+(z))) (aG (gM (hlx) (hly)) (by decide)).g (aG (gM (hlx) (hlz)) (by decide)).g (Int.mul_add _ _ _).symm) kU ⟨aB rfl,aB rfl,rfl⟩ (kF ((x)*((y)+(z)))) ?_
    refine aD 12 rfl (iN (k:=(x)*((y)+(z))) (gM (hlx) (iG (hly) (hlz))) (by decide)) fT ⟨aB rfl,aB rfl,rfl⟩ (.one (tv (.bool true))) ?_
    refine df 13 ?_;refine df 14 ?_;refine aK 15 ?_;refine aK 16 ?_;refine aK 18 ?_;refine aK 19 ?_
    refine aD 17 rfl (fC (K:=(x)*(y)) (aG (hlx) (by decide)).g (aG (hly) (by decide)).g rfl) gL ⟨aB rfl,aB rfl,rfl⟩ (kF ((x)*(y))) ?_
    refine aD 20 rfl (fC (K:=(x)*(y)) (aG (hly) (by decide)).g (aG (hlx) (by decide)).g (Int.mul_comm _ _)) gL ⟨aB rfl,aB rfl,rfl⟩ (kF ((x)*(y))) ?_
    refine aD 21 rfl (iN (k:=(x)*(y)) (gM (hlx) (hly)) (by decide)) fT ⟨aB rfl,aB rfl,rfl⟩ (.one (tv (.bool true))) ?_
    refine df 22 ?_;refine df 23 ?_;refine df 24 ?_;refine aK 25 ?_;refine aK 26 ?_;refine aK 28 ?_;refine aK 30 ?_
    refine aD 27 rfl (jA (K:=(x)+(y)) (aG (hlx) (by decide)).g (aG (hly) (by decide)).g rfl) kU ⟨aB rfl,aB rfl,rfl⟩ (kF ((x)+(y))) ?_
    refine aD 29 rfl (zW (K:=x) (aG (iG (hlx) (hly)) (by decide)).g (aG (hly) (by decide)).g (by omega)) wK ⟨aB rfl,aB rfl,rfl⟩ (kF (x)) ?_
    refine aD 31 rfl (iN (k:=x) (hlx) (by decide)) fT ⟨aB rfl,aB rfl,rfl⟩ (.one (tv (.bool true))) ?_
    refine df 32 ?_;refine df 33 ?_;refine df 34 ?_;refine aK 35 ?_;refine aK 36 ?_;refine aK 38 ?_;refine aK 39 ?_
    refine aD 37 rfl (lC (aG (hlx) (by decide)).g (aG (hly) (by decide)).g (Nat.le_trans (lK (hlx) (hly)) (by decide))) nV ⟨aB rfl,aB rfl,rfl⟩ (.one (tv (.int .i64 (((x)-(y)).sign)))) ?_
    refine aD 40 rfl (lC (aG (hly) (by decide)).g (aG (hlx) (by decide)).g (Nat.le_trans (lK (hly) (hlx)) (by decide))) nV ⟨aB rfl,aB rfl,rfl⟩ (.one (tv (.int .i64 (((y)-(x)).sign)))) ?_
    refine df 41 ?_;refine df 42 ?_;refine WD.cast (t:=140) (u':=.bool false) rfl (congrArg Value.bool (decide_eq_false fun h=>h (wI x y))) ?_
    refine df 43 ?_;refine aP ?_;refine eR rfl ?_;refine sk ?_;refine sq ?_;refine rl ?_;refine ld ?_
    refine ca (pD (aG (hlx) (by decide)) (Nat.le_trans (hlx) (by decide))) tH ⟨aB rfl,rfl⟩ (.one (tv (.string (aW (fN x))))) ?_
    refine ca (tK (k:=x) (Nat.le_trans (rV hlx (by decide)) (by decide))) Ga ⟨a1 rfl,rfl⟩ (.tup [kF x,.one (tv (.int .i64 0))]) ?_
    (iterate 3 refine o1 ?_);refine al 5 ?_;refine st ?_;refine o1 ?_;refine nl ?_;refine sq ?_;refine sq ?_;refine rl ?_;refine o1 ?_;refine o1 ?_
    refine WL.cast (t:=149) (u':=.bool false) rfl (congrArg Value.bool (decide_eq_false (by decide))) ?_
    refine o1 ?_;refine ld ?_;refine ld ?_;refine ca (iN (k:=x) (hlx) (by decide)) fT ⟨aB rfl,aB rfl,rfl⟩ (.one (tv (.bool true))) ?_
    refine o1 ?_;refine o1 ?_;refine nl ?_;refine eR rfl ?_;refine sk ?_;refine sq ?_;refine rl ?_;refine ld ?_;refine ld ?_
    refine ca (uR (aG (hlx) (by decide)).g (aG (hly) (by decide)).g) wF ⟨aB rfl,aB rfl,rfl⟩ (kF ((Int.gcd x y:Nat):Int)) ?_
    refine al 6 ?_;refine st ?_;refine nl ?_;refine sq ?_;refine sq ?_;refine rl ?_;refine ld ?_
    refine ca (dF (aG (hJ (hlx) (hly)) (by decide)).g) eY ⟨aB rfl,rfl⟩ (.one (tv (.int .i64 ((((Int.gcd x y:Nat):Int)).sign)))) ?_
    refine o1 ?_;refine nl ?_;refine bU rfl (fun h10=>?_) (fun h10=>?_)
    ·refine sq ?_;refine rl ?_;refine ld ?_;refine ca (dF (aG (hlx) (by decide)).g) eY ⟨aB rfl,rfl⟩ (.one (tv (.int .i64 ((x).sign)))) ?_
     refine o1 ?_;refine WL.cast (t:=164) (u':=.bool true) rfl (congrArg Value.bool (decide_eq_true (lX.2 (zQ (lX.1 h10))))) ?_;refine o1 ?_;refine ld ?_
     refine ca (dF (aG (hly) (by decide)).g) eY ⟨aB rfl,rfl⟩ (.one (tv (.int .i64 ((y).sign)))) ?_
     refine o1 ?_;refine WL.cast (t:=168) (u':=.bool true) rfl (congrArg Value.bool (decide_eq_true (lX.2 (zR (lX.1 h10))))) ?_;refine o1 ?_;refine o1 ?_
     refine ca (dD) fU rfl (.one (tv (.bool true))) ?_;refine o1 ?_;refine o1 ?_;refine nl ?_;refine rt ?_;exact fS (.inl rfl) rfl (rfl)
    refine sk ?_;refine sq ?_;have hg0:((Int.gcd x y:Nat):Int)≠0:=fun e=>h10 (lX.2 e)
    refine rl ?_;refine ld ?_;refine ld ?_
    refine ca (mU (q:=(x).fdiv ((Int.gcd x y:Nat):Int)) (r:=(0:Int)) (aG (hlx) (by decide)).g (aG (hJ (hlx) (hly)) (by decide)).g hg0 rfl (zS x y)) lR ⟨aB rfl,aB rfl,rfl⟩ (.tup [kF ((x).fdiv ((Int.gcd x y:Nat):Int)),kF ((0:Int)),.one (tv (.int .i64 0))]) ?_
    (iterate 4 refine o1 ?_);refine al 7 ?_;refine al 8 ?_;refine st ?_;refine st ?_;refine o1 ?_;refine nl ?_;refine sq ?_;refine rl ?_;refine ld ?_;refine ld ?_
    refine ca (mU (q:=(y).fdiv ((Int.gcd x y:Nat):Int)) (r:=(0:Int)) (aG (hly) (by decide)).g (aG (hJ (hlx) (hly)) (by decide)).g hg0 rfl (zU x y)) lR ⟨aB rfl,aB rfl,rfl⟩ (.tup [kF ((y).fdiv ((Int.gcd x y:Nat):Int)),kF ((0:Int)),.one (tv (.int .i64 0))]) ?_
    (iterate 4 refine o1 ?_);refine al 9 ?_;refine al 10 ?_;refine st ?_;refine st ?_;refine o1 ?_;refine nl ?_;refine sq ?_;refine rl ?_;refine ld ?_
    refine ca (dF (aG (show Ln 0≤20 from Nat.zero_le 20) (by decide)).g) eY ⟨aB rfl,rfl⟩ (.one (tv (.int .i64 (((0:Int)).sign)))) ?_
    refine o1 ?_;refine WL.cast (t:=189) (u':=.bool true) rfl (congrArg Value.bool (decide_eq_true rfl)) ?_;refine o1 ?_;refine ld ?_
    refine ca (dF (aG (show Ln 0≤20 from Nat.zero_le 20) (by decide)).g) eY ⟨aB rfl,rfl⟩ (.one (tv (.int .i64 (((0:Int)).sign)))) ?_
    refine o1 ?_;refine WL.cast (t:=193) (u':=.bool true) rfl (congrArg Value.bool (decide_eq_true rfl)) ?_;refine o1 ?_;refine o1 ?_;refine ld ?_
    refine ca (dF (aG (hJ (hlx) (hly)) (by decide)).g) eY ⟨aB rfl,rfl⟩ (.one (tv (.int .i64 ((((Int.gcd x y:Nat):Int)).sign)))) ?_
    refine o1 ?_;refine WL.cast (t:=198) (u':=.bool true) rfl (congrArg Value.bool (decide_eq_true (zV hg0))) ?_;refine o1 ?_;refine o1 ?_
    refine ca (dD) fU rfl (.one (tv (.bool true))) ?_;refine o1 ?_;refine o1 ?_;refine nl ?_;refine rt ?_;exact fS (.inl rfl) rfl (rfl)
   refine o1 ?_;refine o1 ?_;refine nl ?_;refine iC rfl ?_;refine sq ?_;refine rl ?_;refine ca (dD) fU rfl (.one (tv (.bool true))) ?_;refine o1 ?_;refine nl ?_;refine rt ?_
   exact fS (.inl rfl) rfl (rfl)
  (iterate 3 refine o1 ?_);(iterate 3 refine cW ?_);refine o1 ?_;refine nl ?_;refine iC rfl ?_;refine sq ?_;refine rl ?_;refine ca (dD) fU rfl (.one (tv (.bool true))) ?_
  refine o1 ?_;refine nl ?_;refine rt ?_;exact fS (.inl rfl) rfl (rfl)
 (iterate 3 refine o1 ?_);(iterate 3 refine cW ?_);refine o1 ?_;refine o1 ?_;(iterate 3 refine cW ?_);refine o1 ?_;refine nl ?_;refine iC rfl ?_;refine sq ?_;refine rl ?_
 refine ca (dD) fU rfl (.one (tv (.bool true))) ?_;refine o1 ?_;refine nl ?_;refine rt ?_;exact fS (.inl rfl) rfl (rfl)
def xQ (k k':Int):List Zi:=[.of (k+k'),.of (k-k'),.of (k*k'),.of (-k),.of (((k.natAbs:Nat):Int)),.of (((Int.gcd k k':Nat):Int)),.of (((if k'=0 then 0 else k.fdiv k'):Int)),.of (((if k'=0 then 0 else k.fmod k'):Int))]
theorem Pi:∀{zs:List Zi}{i:Nat},i<zs.length→((zs.flatMap (dU true)).map AV.t)[0+i*2+1]? =some (.t (sU true (dE zs i).x))
 | [],_,h=>by simp at h
 | _::_,0,_=>rfl
 | z::zs,i+1,h=>by
  rw[show 0+(i+1)*2+1=(0+i*2+1)+1+1 by omega]
  exact Pi (zs:=zs) (i:=i) (by simpa using h)
theorem zZ {y:AV}:∀{zs:List Zi}{i:Nat},i<zs.length→((((zs.flatMap (dU true)).map AV.t).set (0+i*2+1) y).drop (0+i*2)).take 2=[tv (.bool (dE zs i).s),y]
 | [],_,h=>by simp at h
 | _::_,0,_=>rfl
 | z::zs,i+1,h=>by
  rw[show 0+(i+1)*2+1=(0+i*2+1)+1+1 by omega,show 0+(i+1)*2=(0+i*2)+1+1 by omega]
  exact zZ (zs:=zs) (i:=i) (by simpa using h)
theorem Iz:∀{zs:List Zi}{i:Nat},i<zs.length→(((zs.flatMap (dU false)).map AV.t).drop (0+i*2)).take 2=(dU false (dE zs i)).map .t
 | [],_,h=>by simp at h
 | _::_,0,_=>rfl
 | z::zs,i+1,h=>by
  rw[show 0+(i+1)*2=(0+i*2)+1+1 by omega]
  exact Iz (zs:=zs) (i:=i) (by simpa using h)
theorem Ja {y:AV}{xs:List Nat}:∀{zs:List Zi}{i:Nat},i<zs.length→(((zs.flatMap (dU true)).map AV.t).set (0+i*2+1) y).set (0+i*2+1) (.t (sU true xs))=(((zs.set i ⟨(dE zs i).s,xs⟩)).flatMap (dU true)).map .t
 | [],_,h=>by simp at h
 | _::_,0,_=>rfl
 | z::zs,i+1,h=>by
  rw[show 0+(i+1)*2+1=(0+i*2+1)+1+1 by omega]
  exact congrArg (fun l=>tv (.bool z.s)::AV.t (sU true z.x)::l) (Ja (zs:=zs) (i:=i) (by simpa using h))
theorem Nd {zs:List Zi}{i j:Nat}{z:Zi}(h:i≠j):dE (zs.set i z) j=dE zs j:=by
 unfold dE
 rw[List.getD_eq_getElem?_getD,List.getD_eq_getElem?_getD,List.getElem?_set_ne h]
theorem Pj {k k' z:Int}(hk:k.natAbs<4294967296^30) (hk':k'.natAbs<4294967296^30) (h:z∈[k+k',k-k',k*k',-k,((k.natAbs:Nat):Int),((Int.gcd k k':Nat):Int),((if k'=0 then 0 else k.fdiv k'):Int),((if k'=0 then 0 else k.fmod k'):Int)]):z.natAbs<4294967296^61:=by
 have e1:(4294967296:Nat)^30*4≤4294967296^61:=by decide
 simp only[List.mem_cons,List.not_mem_nil,or_false]at h
 rcases h with rfl | rfl | rfl | rfl | rfl | rfl | rfl | rfl
 ·omega
 ·omega
 ·rw[Int.natAbs_mul]
  exact Nat.lt_of_lt_of_le (Nat.mul_lt_mul'' hk hk') (by decide)
 ·omega
 ·omega
 ·rw[Int.natAbs_natCast]
  have h1:=Int.gcd_dvd_natAbs_left k k'
  have h2:=Int.gcd_dvd_natAbs_right k k'
  rcases Nat.eq_zero_or_pos k.natAbs with h0 | h0
  ·rcases Nat.eq_zero_or_pos k'.natAbs with h3 | h3
   ·have:Int.gcd k k'=0:=by rw[Int.gcd,h0,h3];rfl
    omega
   have:=Nat.le_of_dvd h3 h2
   omega
  have:=Nat.le_of_dvd h0 h1
  omega
 ·split
  ·decide
  rw[Int.fdiv_eq_ediv]
  have h1:=Int.natAbs_ediv_le_natAbs k k'
  split <;> omega
 split
 ·decide
 rename_i h0
 rw[Int.fmod_eq_emod]
 have h1:=Int.emod_nonneg k h0
 have h2:=Int.emod_lt_of_pos k (show 0<(k'.natAbs:Int) by omega)
 have h3:k%(k'.natAbs:Int)=k%k':=by
  rcases Int.natAbs_eq k' with h4 | h4
  ·rw[←h4]
  conv=>rhs;rw[h4,Int.emod_neg]
 split <;> omega
theorem Vg {k k':Int}{i:Nat}(hk:k.natAbs<4294967296^30) (hk':k'.natAbs<4294967296^30) (h:i<8):(dE (xQ k k') i).x.length≤61:=by
 have h1:∀z∈xQ k k',z.x.length≤61:=fun z hz=>by
  have h2:xQ k k'=([k+k',k-k',k*k',-k,((k.natAbs:Nat):Int),((Int.gcd k k':Nat):Int),((if k'=0 then 0 else k.fdiv k'):Int),((if k'=0 then 0 else k.fmod k'):Int)]:List Int).map .of:=rfl
  rw[h2]at hz
  obtain⟨y,h3,rfl⟩:=List.mem_map.1 hz
  exact bC (by omega) (Pj hk hk' h3)
 exact h1 _ (tL h)
set_option maxHeartbeats 4000000 in
theorem jV {a b:Zi}(hla:Lim 4294967296 a.x) (hlb:Lim 4294967296 b.x):aL true Tryz.prog 42 [] [gF a,gF b] (aU (.one (tv (.bool true)))):=by
 refine cF Tryz.func42 rfl Tryz.ntmps42 rfl aA rfl fun N9 w9 c0 h0=>?_
 refine sq ?_;refine rl ?_;refine bx 0 ?_;refine bx 1 ?_;refine o1 ?_;refine nl ?_;refine sq ?_;refine sq ?_;refine rl ?_;refine o1 ?_;refine ld ?_;(iterate 3 refine o1 ?_)
 refine WL.split (t:=21) rfl (fun h1=>?_) (fun h1=>?_)
 ·(iterate 4 refine cW ?_);refine o1 ?_;refine nl ?_;refine iC rfl ?_;refine sq ?_;refine rl ?_;refine ca (dD) fU rfl (.one (tv (.bool true))) ?_;refine o1 ?_;refine nl ?_
  refine rt ?_;exact fS (.inl rfl) rfl (rfl)
 refine o1 ?_;refine ld ?_;(iterate 3 refine o1 ?_);refine nl ?_;refine bU rfl (fun h2=>?_) (fun h2=>?_)
 ·refine sq ?_;refine rl ?_;refine ca (dD) fU rfl (.one (tv (.bool true))) ?_;refine o1 ?_;refine nl ?_;refine rt ?_;exact fS (.inl rfl) rfl (rfl)
 refine sk ?_;obtain⟨k,hka⟩:∃k,k=zv a:=⟨_,rfl⟩
 obtain⟨k',hkb⟩:∃k,k=zv b:=⟨_,rfl⟩
 have hza:ZL 30 a:=⟨hla,by omega⟩
 have hzb:ZL 30 b:=⟨hlb,by omega⟩
 have ha:Zn a k:=hka▸hza.n (by omega)
 have hb:Zn b k':=hkb▸hzb.n (by omega)
 have hk:k.natAbs<4294967296^30:=hka▸yQ hza
 have hk':k'.natAbs<4294967296^30:=hkb▸yQ hzb
 refine md (γ:=Unit) (fun _=>cJ [(2,.one (.pt 0 0)),(3,.one (.pt 1 0)),(5,.one (.pt 2 0)),(6,.one (.pt 3 0))]) (fun _=>([⟨44,0,[tv (.bool a.s),.t (sU false a.x)]⟩,⟨44,0,[tv (.bool b.s),.t (sU false b.x)]⟩,⟨47,0,[tv (.bool a.s),.t (sU false a.x)]⟩,⟨47,0,[tv (.bool b.s),.t (sU false b.x)]⟩]:List Ob).map some) (fun _=>True) ?_ fun _ _=>?_
 ·refine rd [0,1] (fun i=>[7].contains i) mixed ?_
  refine aK 0 ?_;refine aK 2 ?_;refine WO.three (i:=1) (j:=4) (m:=5) (by kernel_rfl) ?_ ?_ ?_
  ·refine cP 1 rfl (eW (a:=a) (by omega)) gK ⟨aB rfl,rfl⟩ (gF a) ?_
   refine WO.three (i:=3) (j:=4) (m:=5) (by kernel_rfl) ?_ ?_ ?_
   ·refine cP 3 rfl (eW (a:=b) (by omega)) gK ⟨aB rfl,rfl⟩ (gF b) ?_
    refine WO.two (i:=4) (j:=5) (by kernel_rfl) ?_ ?_
    ·refine bD (key:=2) 4 rfl rfl aA rfl ⟨rfl,rfl,trivial⟩ ?_;refine dA (key:=3) 5 (by kernel_rfl) rfl rfl aA rfl ⟨rfl,rfl,trivial⟩ ?_
     refine aN 6 (by kernel_rfl) rfl rfl aA rfl rfl rfl rfl ⟨rfl,rfl,trivial⟩ ?_
     refine dst 7 ?_;refine aP ?_;exact⟨(),trivial,aJ h0 [0,1,2,3] _ _ (by decide) ⟨rfl,rfl,rfl,rfl,trivial⟩ ⟨oe rfl rfl,oe rfl rfl,oe rfl rfl,oe rfl rfl,rfl⟩⟩
    refine bD (key:=2) 5 rfl rfl aA rfl ⟨rfl,rfl,trivial⟩ ?_;refine dA (key:=3) 4 (by kernel_rfl) rfl rfl aA rfl ⟨rfl,rfl,trivial⟩ ?_
    refine aN 6 (by kernel_rfl) rfl rfl aA rfl rfl rfl rfl ⟨rfl,rfl,trivial⟩ ?_
    refine dst 7 ?_;refine aP ?_;exact⟨(),trivial,aJ h0 [0,1,3,2] _ _ (by decide) ⟨rfl,rfl,rfl,rfl,trivial⟩ ⟨oe rfl rfl,oe rfl rfl,oe rfl rfl,oe rfl rfl,rfl⟩⟩
   ·refine bD (key:=2) 4 rfl rfl aA rfl ⟨rfl,rfl,trivial⟩ ?_;refine WO.two (i:=3) (j:=5) (by kernel_rfl) ?_ ?_
    ·refine cP 3 rfl (eW (a:=b) (by omega)) gK ⟨aB rfl,rfl⟩ (gF b) ?_
     refine dA (key:=3) 5 (by kernel_rfl) rfl rfl aA rfl ⟨rfl,rfl,trivial⟩ ?_
     refine aN 6 (by kernel_rfl) rfl rfl aA rfl rfl rfl rfl ⟨rfl,rfl,trivial⟩ ?_
     refine dst 7 ?_;refine aP ?_;exact⟨(),trivial,aJ h0 [0,1,2,3] _ _ (by decide) ⟨rfl,rfl,rfl,rfl,trivial⟩ ⟨oe rfl rfl,oe rfl rfl,oe rfl rfl,oe rfl rfl,rfl⟩⟩
    refine bD (key:=3) 5 rfl rfl aA rfl ⟨rfl,rfl,trivial⟩ ?_;refine aD 3 rfl (eW (a:=b) (by omega)) gK ⟨aB rfl,rfl⟩ (gF b) ?_
    refine aN 6 (by kernel_rfl) rfl rfl aA rfl rfl rfl rfl ⟨rfl,rfl,trivial⟩ ?_
    refine dst 7 ?_;refine aP ?_;exact⟨(),trivial,aJ h0 [0,1,2,3] _ _ (by decide) ⟨rfl,rfl,rfl,rfl,trivial⟩ ⟨oe rfl rfl,oe rfl rfl,oe rfl rfl,oe rfl rfl,rfl⟩⟩
   refine bD (key:=2) 5 rfl rfl aA rfl ⟨rfl,rfl,trivial⟩ ?_;refine WO.two (i:=3) (j:=4) (by kernel_rfl) ?_ ?_
   ·refine cP 3 rfl (eW (a:=b) (by omega)) gK ⟨aB rfl,rfl⟩ (gF b) ?_
    refine dA (key:=3) 4 (by kernel_rfl) rfl rfl aA rfl ⟨rfl,rfl,trivial⟩ ?_
    refine aN 6 (by kernel_rfl) rfl rfl aA rfl rfl rfl rfl ⟨rfl,rfl,trivial⟩ ?_
    refine dst 7 ?_;refine aP ?_;exact⟨(),trivial,aJ h0 [0,1,3,2] _ _ (by decide) ⟨rfl,rfl,rfl,rfl,trivial⟩ ⟨oe rfl rfl,oe rfl rfl,oe rfl rfl,oe rfl rfl,rfl⟩⟩
   refine bD (key:=3) 4 rfl rfl aA rfl ⟨rfl,rfl,trivial⟩ ?_;refine aD 3 rfl (eW (a:=b) (by omega)) gK ⟨aB rfl,rfl⟩ (gF b) ?_
   refine aN 6 (by kernel_rfl) rfl rfl aA rfl rfl rfl rfl ⟨rfl,rfl,trivial⟩ ?_
   refine dst 7 ?_;refine aP ?_;exact⟨(),trivial,aJ h0 [0,1,3,2] _ _ (by decide) ⟨rfl,rfl,rfl,rfl,trivial⟩ ⟨oe rfl rfl,oe rfl rfl,oe rfl rfl,oe rfl rfl,rfl⟩⟩
  ·refine bD (key:=2) 4 rfl rfl aA rfl ⟨rfl,rfl,trivial⟩ ?_;refine WO.two (i:=1) (j:=5) (by kernel_rfl) ?_ ?_
   ·refine cP 1 rfl (eW (a:=a) (by omega)) gK ⟨aB rfl,rfl⟩ (gF a) ?_
    refine WO.two (i:=3) (j:=5) (by kernel_rfl) ?_ ?_
    ·refine cP 3 rfl (eW (a:=b) (by omega)) gK ⟨aB rfl,rfl⟩ (gF b) ?_
     refine dA (key:=3) 5 (by kernel_rfl) rfl rfl aA rfl ⟨rfl,rfl,trivial⟩ ?_
     refine aN 6 (by kernel_rfl) rfl rfl aA rfl rfl rfl rfl ⟨rfl,rfl,trivial⟩ ?_
     refine dst 7 ?_;refine aP ?_;exact⟨(),trivial,aJ h0 [0,1,2,3] _ _ (by decide) ⟨rfl,rfl,rfl,rfl,trivial⟩ ⟨oe rfl rfl,oe rfl rfl,oe rfl rfl,oe rfl rfl,rfl⟩⟩
    refine bD (key:=3) 5 rfl rfl aA rfl ⟨rfl,rfl,trivial⟩ ?_;refine aD 3 rfl (eW (a:=b) (by omega)) gK ⟨aB rfl,rfl⟩ (gF b) ?_
    refine aN 6 (by kernel_rfl) rfl rfl aA rfl rfl rfl rfl ⟨rfl,rfl,trivial⟩ ?_
    refine dst 7 ?_;refine aP ?_;exact⟨(),trivial,aJ h0 [0,1,2,3] _ _ (by decide) ⟨rfl,rfl,rfl,rfl,trivial⟩ ⟨oe rfl rfl,oe rfl rfl,oe rfl rfl,oe rfl rfl,rfl⟩⟩
   refine bD (key:=3) 5 rfl rfl aA rfl ⟨rfl,rfl,trivial⟩ ?_;refine aD 1 rfl (eW (a:=a) (by omega)) gK ⟨aB rfl,rfl⟩ (gF a) ?_
   refine aD 3 rfl (eW (a:=b) (by omega)) gK ⟨aB rfl,rfl⟩ (gF b) ?_
   refine aN 6 (by kernel_rfl) rfl rfl aA rfl rfl rfl rfl ⟨rfl,rfl,trivial⟩ ?_
   refine dst 7 ?_;refine aP ?_;exact⟨(),trivial,aJ h0 [0,1,2,3] _ _ (by decide) ⟨rfl,rfl,rfl,rfl,trivial⟩ ⟨oe rfl rfl,oe rfl rfl,oe rfl rfl,oe rfl rfl,rfl⟩⟩
  refine bD (key:=2) 5 rfl rfl aA rfl ⟨rfl,rfl,trivial⟩ ?_;refine WO.two (i:=1) (j:=4) (by kernel_rfl) ?_ ?_
  ·refine cP 1 rfl (eW (a:=a) (by omega)) gK ⟨aB rfl,rfl⟩ (gF a) ?_
   refine WO.two (i:=3) (j:=4) (by kernel_rfl) ?_ ?_
   ·refine cP 3 rfl (eW (a:=b) (by omega)) gK ⟨aB rfl,rfl⟩ (gF b) ?_
    refine dA (key:=3) 4 (by kernel_rfl) rfl rfl aA rfl ⟨rfl,rfl,trivial⟩ ?_
    refine aN 6 (by kernel_rfl) rfl rfl aA rfl rfl rfl rfl ⟨rfl,rfl,trivial⟩ ?_
    refine dst 7 ?_;refine aP ?_;exact⟨(),trivial,aJ h0 [0,1,3,2] _ _ (by decide) ⟨rfl,rfl,rfl,rfl,trivial⟩ ⟨oe rfl rfl,oe rfl rfl,oe rfl rfl,oe rfl rfl,rfl⟩⟩
   refine bD (key:=3) 4 rfl rfl aA rfl ⟨rfl,rfl,trivial⟩ ?_;refine aD 3 rfl (eW (a:=b) (by omega)) gK ⟨aB rfl,rfl⟩ (gF b) ?_
   refine aN 6 (by kernel_rfl) rfl rfl aA rfl rfl rfl rfl ⟨rfl,rfl,trivial⟩ ?_
   refine dst 7 ?_;refine aP ?_;exact⟨(),trivial,aJ h0 [0,1,3,2] _ _ (by decide) ⟨rfl,rfl,rfl,rfl,trivial⟩ ⟨oe rfl rfl,oe rfl rfl,oe rfl rfl,oe rfl rfl,rfl⟩⟩
  refine bD (key:=3) 4 rfl rfl aA rfl ⟨rfl,rfl,trivial⟩ ?_;refine aD 1 rfl (eW (a:=a) (by omega)) gK ⟨aB rfl,rfl⟩ (gF a) ?_
  refine aD 3 rfl (eW (a:=b) (by omega)) gK ⟨aB rfl,rfl⟩ (gF b) ?_
  refine aN 6 (by kernel_rfl) rfl rfl aA rfl rfl rfl rfl ⟨rfl,rfl,trivial⟩ ?_
  refine dst 7 ?_;refine aP ?_;exact⟨(),trivial,aJ h0 [0,1,3,2] _ _ (by decide) ⟨rfl,rfl,rfl,rfl,trivial⟩ ⟨oe rfl rfl,oe rfl rfl,oe rfl rfl,oe rfl rfl,rfl⟩⟩
 refine sq ?_;refine rl ?_;refine ld ?_;refine ld ?_
 refine ca (Jb ha hb) BG ⟨aB rfl,aB rfl,rfl⟩ (.tup [kF ((if k'=0 then 0 else k.fdiv k'):Int),kF ((if k'=0 then 0 else k.fmod k'):Int),.one (tv (.int .i64 (if k'=0 then 20 else 0)))]) ?_
 (iterate 4 refine o1 ?_);refine al 4 ?_;refine al 5 ?_;refine st ?_;refine st ?_;refine o1 ?_;refine nl ?_;refine sq ?_;refine sq ?_;refine rl ?_;refine o1 ?_;refine nl ?_
 refine bl ?_
 refine lp (γ:=Nat) (fun t=>cJ [(2,.one (.pt 0 0)),(3,.one (.pt 1 0)),(5,.one (.pt 2 0)),(6,.one (.pt 3 0)),(7,.one (.pt 4 0)),(8,.one (.pt 5 0)),(9,.one (tv (.int .i64 (if k'=0 then 20 else 0)))),(10,.one (tv (.int .i64 ((t:Nat):Int))))]) (fun t=>[(⟨44,0,[tv (.bool a.s),.t (sU false a.x)]⟩:Ob),⟨44,0,[tv (.bool b.s),.t (sU false b.x)]⟩,⟨47,0,[tv (.bool a.s),.t (sU false a.x)]⟩,⟨47,0,[tv (.bool b.s),.t (sU false b.x)]⟩,⟨47,0,[tv (.bool (aC (((if k'=0 then 0 else k.fdiv k'):Int)))),.t (sU false (dg 4294967296 (((if k'=0 then 0 else k.fdiv k'):Int)).natAbs))]⟩,⟨47,0,[tv (.bool (aC (((if k'=0 then 0 else k.fmod k'):Int)))),.t (sU false (dg 4294967296 (((if k'=0 then 0 else k.fmod k'):Int)).natAbs))]⟩].map some) (fun t=>t≤2∧True) (fun t=>2-t) 0 ⟨Nat.zero_le _,trivial⟩ (aJ h0 [0,1,2,3,4,5] _ _ (by decide) ⟨rfl,rfl,rfl,rfl,rfl,rfl,rfl,rfl,trivial⟩ ⟨oe rfl rfl,oe rfl rfl,oe rfl rfl,oe rfl rfl,oe rfl rfl,oe rfl rfl,rfl⟩) fun t ht=>?_
 refine sq ?_;refine sq ?_;refine rl ?_;refine o1 ?_;refine o1 ?_;refine nl ?_;refine bU rfl (fun h3=>?_) (fun h3=>?_)
 ·refine sk ?_;refine sq ?_;refine bl ?_;refine sq ?_;refine rd [0,1,2,3,4,5] (fun i=>[17].contains i) mixed ?_
  refine aK 0 ?_;refine aK 1 ?_;refine aK 3 ?_;refine aK 4 ?_;refine aK 6 ?_;refine aK 7 ?_;refine aK 9 ?_;refine aK 11 ?_;refine aK 13 ?_;refine aK 14 ?_
  refine lY 6 2 rfl (yR ha.g hb.g) kU ⟨aB rfl,aB rfl,rfl⟩ ?_;refine lY 7 5 rfl (yS ha.g hb.g) wK ⟨aB rfl,aB rfl,rfl⟩ ?_
  refine lY 8 8 rfl (uQ ha.g hb.g) gL ⟨aB rfl,aB rfl,rfl⟩ ?_;refine lY 9 10 rfl (Za ha.g) BH ⟨aB rfl,rfl⟩ ?_;refine lY 10 12 rfl (uT ha.g) zY ⟨aB rfl,rfl⟩ ?_
  refine lY 11 15 rfl (uR ha.g hb.g) wF ⟨aB rfl,aB rfl,rfl⟩ ?_;refine qQ (key:=12) 16 (by kernel_rfl) rfl rfl aA rfl ⟨rfl,rfl,rfl,rfl,rfl,rfl,trivial⟩ ?_
  refine gR 17 (by kernel_rfl) rfl rfl aA rfl (by trivial) ?_ (fun h=>by first | rfl | cases h)
  refine aP ?_;refine sq ?_;refine rd [0,1,2,3,4,5,12] (fun i=>[17].contains i) mixed ?_
  refine aK 0 ?_;refine aK 1 ?_;refine aK 3 ?_;refine aK 4 ?_;refine aK 6 ?_;refine aK 7 ?_;refine aK 9 ?_;refine aK 11 ?_;refine aK 13 ?_;refine aK 14 ?_
  refine aD 2 rfl (uU ha hb) Gb ⟨aB rfl,aB rfl,rfl⟩ (kF (k+k')) ?_;refine aD 5 rfl (Jc ha hb) Vh ⟨aB rfl,aB rfl,rfl⟩ (kF (k-k')) ?_
  refine aD 8 rfl (Vi ha hb) BI ⟨aB rfl,aB rfl,rfl⟩ (kF (k*k')) ?_;refine aD 10 rfl (Jd ha) Vj ⟨aB rfl,rfl⟩ (kF (-k)) ?_
  refine aD 12 rfl (Ve ha) BJ ⟨aB rfl,rfl⟩ (kF (((k.natAbs:Nat):Int))) ?_;refine aD 15 rfl (Vk ha hb) BK ⟨aB rfl,aB rfl,rfl⟩ (kF (((Int.gcd k k':Nat):Int))) ?_
  refine qQ (key:=13) 16 (by kernel_rfl) rfl rfl aA rfl ⟨rfl,rfl,rfl,rfl,rfl,rfl,rfl,trivial⟩ ?_
  refine gR 17 (by kernel_rfl) rfl rfl aA rfl (by trivial) ?_ (fun h=>by first | rfl | cases h)
  refine aP ?_;refine sq ?_;refine rl ?_;refine ld ?_;refine ld ?_;refine hH 14 (Iv ha.g hb.g) lR ⟨aB rfl,aB rfl,rfl⟩ ?_;(iterate 4 refine o1 ?_);refine al 16 ?_
  refine al 17 ?_;refine st ?_;refine st ?_;refine o1 ?_;refine nl ?_;refine sq ?_;refine rl ?_;refine o1 ?_;refine ld ?_;refine ld ?_;refine bs 18 ?_
  refine fR (j:=19) (n:=6) (m:=2) aA rfl rfl rfl rfl (.sl rfl rfl) (.sl rfl rfl rfl) rfl rfl rfl (by omega) (by omega) ?_
  refine o1 ?_;refine nl ?_;refine sq ?_;refine rl ?_;refine o1 ?_;refine ld ?_;refine ld ?_;refine bs 20 ?_
  refine fR (j:=21) (n:=6) (m:=2) aA rfl rfl rfl rfl (.sl rfl rfl) (.sl rfl rfl rfl) rfl rfl rfl (by omega) (by omega) ?_
  refine o1 ?_;refine nl ?_;refine sq ?_;refine sq ?_;refine rl ?_;refine o1 ?_;refine nl ?_;refine bl ?_
  refine WP.sub (aJ h0 [0,1,2,3,4,5,19,6,7,8,9,10,11,14,15,21] [(2,.one (.pt 0 0)),(3,.one (.pt 1 0)),(5,.one (.pt 2 0)),(6,.one (.pt 3 0)),(7,.one (.pt 4 0)),(8,.one (.pt 5 0)),(9,.one (tv (.int .i64 (if k'=0 then 20 else 0)))),(10,.one (tv (.int .i64 ((t:Nat):Int)))),(11,.one (.sl 6 0 (6+2))),(12,.one (.sl 15 0 (6+2))),(15,.one (tv (.int .i64 (if k'=0 then 20 else 0)))),(16,.one (tv (.int .i64 ((0:Nat):Int))))] [(⟨44,0,[tv (.bool a.s),.t (sU false a.x)]⟩:Ob),⟨44,0,[tv (.bool b.s),.t (sU false b.x)]⟩,⟨47,0,[tv (.bool a.s),.t (sU false a.x)]⟩,⟨47,0,[tv (.bool b.s),.t (sU false b.x)]⟩,⟨47,0,[tv (.bool (aC (((if k'=0 then 0 else k.fdiv k'):Int)))),.t (sU false (dg 4294967296 (((if k'=0 then 0 else k.fdiv k'):Int)).natAbs))]⟩,⟨47,0,[tv (.bool (aC (((if k'=0 then 0 else k.fmod k'):Int)))),.t (sU false (dg 4294967296 (((if k'=0 then 0 else k.fmod k'):Int)).natAbs))]⟩,⟨44,2,[tv (.bool (aC (k+k'))),.sl 7 0 ((dg 4294967296 (k+k').natAbs).length),tv (.bool (aC (k-k'))),.sl 8 0 ((dg 4294967296 (k-k').natAbs).length),tv (.bool (aC (k*k'))),.sl 9 0 ((dg 4294967296 (k*k').natAbs).length),tv (.bool (aC (-k))),.sl 10 0 ((dg 4294967296 (-k).natAbs).length),tv (.bool (aC (((k.natAbs:Nat):Int)))),.sl 11 0 ((dg 4294967296 (((k.natAbs:Nat):Int)).natAbs).length),tv (.bool (aC (((Int.gcd k k':Nat):Int)))),.sl 12 0 ((dg 4294967296 (((Int.gcd k k':Nat):Int)).natAbs).length),tv (.bool (aC (((if k'=0 then 0 else k.fdiv k'):Int)))),.sl 13 0 ((dg 4294967296 (((if k'=0 then 0 else k.fdiv k'):Int)).natAbs).length),tv (.bool (aC (((if k'=0 then 0 else k.fmod k'):Int)))),.sl 14 0 ((dg 4294967296 (((if k'=0 then 0 else k.fmod k'):Int)).natAbs).length)]⟩,⟨22,1,(aM (dg 4294967296 (k+k').natAbs)).map .t⟩,⟨22,1,(aM (dg 4294967296 (k-k').natAbs)).map .t⟩,⟨22,1,(aM (dg 4294967296 (k*k').natAbs)).map .t⟩,⟨22,1,(aM (dg 4294967296 (-k).natAbs)).map .t⟩,⟨22,1,(aM (dg 4294967296 (((k.natAbs:Nat):Int)).natAbs)).map .t⟩,⟨22,1,(aM (dg 4294967296 (((Int.gcd k k':Nat):Int)).natAbs)).map .t⟩,⟨22,1,(aM (dg 4294967296 (((if k'=0 then 0 else k.fdiv k'):Int)).natAbs)).map .t⟩,⟨22,1,(aM (dg 4294967296 (((if k'=0 then 0 else k.fmod k'):Int)).natAbs)).map .t⟩,⟨47,2,[tv (.bool (aC (k+k'))),.t (sU false (dg 4294967296 (k+k').natAbs)),tv (.bool (aC (k-k'))),.t (sU false (dg 4294967296 (k-k').natAbs)),tv (.bool (aC (k*k'))),.t (sU false (dg 4294967296 (k*k').natAbs)),tv (.bool (aC (-k))),.t (sU false (dg 4294967296 (-k).natAbs)),tv (.bool (aC (((k.natAbs:Nat):Int)))),.t (sU false (dg 4294967296 (((k.natAbs:Nat):Int)).natAbs)),tv (.bool (aC (((Int.gcd k k':Nat):Int)))),.t (sU false (dg 4294967296 (((Int.gcd k k':Nat):Int)).natAbs)),tv (.bool (aC (((if k'=0 then 0 else k.fdiv k'):Int)))),.t (sU false (dg 4294967296 (((if k'=0 then 0 else k.fdiv k'):Int)).natAbs)),tv (.bool (aC (((if k'=0 then 0 else k.fmod k'):Int)))),.t (sU false (dg 4294967296 (((if k'=0 then 0 else k.fmod k'):Int)).natAbs))]⟩] (by decide) ⟨rfl,rfl,rfl,rfl,rfl,rfl,rfl,rfl,rfl,rfl,rfl,rfl,trivial⟩ ⟨oe rfl rfl,oe rfl rfl,oe rfl rfl,oe rfl rfl,oe rfl rfl,oe rfl rfl,oe rfl rfl,cD rfl,cD rfl,cD rfl,cD rfl,cD rfl,cD rfl,cD rfl,cD rfl,oe rfl rfl,rfl⟩) ?_
  refine WP.sub (uV (j:=6) (k:=7) (p:=1) (e:=22) (z:=1) (n:=(dg 4294967296 (k+k').natAbs).length) (trs:=aM (dg 4294967296 (k+k').natAbs)) (l':=[tv (.bool (aC (k+k'))),.t (sU true (dg 4294967296 (k+k').natAbs)),tv (.bool (aC (k-k'))),.sl 8 0 ((dg 4294967296 (k-k').natAbs).length),tv (.bool (aC (k*k'))),.sl 9 0 ((dg 4294967296 (k*k').natAbs).length),tv (.bool (aC (-k))),.sl 10 0 ((dg 4294967296 (-k).natAbs).length),tv (.bool (aC (((k.natAbs:Nat):Int)))),.sl 11 0 ((dg 4294967296 (((k.natAbs:Nat):Int)).natAbs).length),tv (.bool (aC (((Int.gcd k k':Nat):Int)))),.sl 12 0 ((dg 4294967296 (((Int.gcd k k':Nat):Int)).natAbs).length),tv (.bool (aC (((if k'=0 then 0 else k.fdiv k'):Int)))),.sl 13 0 ((dg 4294967296 (((if k'=0 then 0 else k.fdiv k'):Int)).natAbs).length),tv (.bool (aC (((if k'=0 then 0 else k.fmod k'):Int)))),.sl 14 0 ((dg 4294967296 (((if k'=0 then 0 else k.fmod k'):Int)).natAbs).length)]) rfl rfl rfl rfl rfl (bP _) (bK _) rfl) ?_
  refine WP.sub (uV (j:=6) (k:=8) (p:=3) (e:=22) (z:=1) (n:=(dg 4294967296 (k-k').natAbs).length) (trs:=aM (dg 4294967296 (k-k').natAbs)) (l':=[tv (.bool (aC (k+k'))),.t (sU true (dg 4294967296 (k+k').natAbs)),tv (.bool (aC (k-k'))),.t (sU true (dg 4294967296 (k-k').natAbs)),tv (.bool (aC (k*k'))),.sl 9 0 ((dg 4294967296 (k*k').natAbs).length),tv (.bool (aC (-k))),.sl 10 0 ((dg 4294967296 (-k).natAbs).length),tv (.bool (aC (((k.natAbs:Nat):Int)))),.sl 11 0 ((dg 4294967296 (((k.natAbs:Nat):Int)).natAbs).length),tv (.bool (aC (((Int.gcd k k':Nat):Int)))),.sl 12 0 ((dg 4294967296 (((Int.gcd k k':Nat):Int)).natAbs).length),tv (.bool (aC (((if k'=0 then 0 else k.fdiv k'):Int)))),.sl 13 0 ((dg 4294967296 (((if k'=0 then 0 else k.fdiv k'):Int)).natAbs).length),tv (.bool (aC (((if k'=0 then 0 else k.fmod k'):Int)))),.sl 14 0 ((dg 4294967296 (((if k'=0 then 0 else k.fmod k'):Int)).natAbs).length)]) rfl rfl rfl rfl rfl (bP _) (bK _) rfl) ?_
  refine WP.sub (aJ h0 [0,1,2,3,4,5,6,9,10,11,12,13,14,15] [(2,.one (.pt 0 0)),(3,.one (.pt 1 0)),(5,.one (.pt 2 0)),(6,.one (.pt 3 0)),(7,.one (.pt 4 0)),(8,.one (.pt 5 0)),(9,.one (tv (.int .i64 (if k'=0 then 20 else 0)))),(10,.one (tv (.int .i64 ((t:Nat):Int)))),(11,.one (.sl 6 0 (6+2))),(12,.one (.sl 13 0 (6+2))),(15,.one (tv (.int .i64 (if k'=0 then 20 else 0)))),(16,.one (tv (.int .i64 ((0:Nat):Int))))] [(⟨44,0,[tv (.bool a.s),.t (sU false a.x)]⟩:Ob),⟨44,0,[tv (.bool b.s),.t (sU false b.x)]⟩,⟨47,0,[tv (.bool a.s),.t (sU false a.x)]⟩,⟨47,0,[tv (.bool b.s),.t (sU false b.x)]⟩,⟨47,0,[tv (.bool (aC (((if k'=0 then 0 else k.fdiv k'):Int)))),.t (sU false (dg 4294967296 (((if k'=0 then 0 else k.fdiv k'):Int)).natAbs))]⟩,⟨47,0,[tv (.bool (aC (((if k'=0 then 0 else k.fmod k'):Int)))),.t (sU false (dg 4294967296 (((if k'=0 then 0 else k.fmod k'):Int)).natAbs))]⟩,⟨44,2,[tv (.bool (aC (k+k'))),.t (sU true (dg 4294967296 (k+k').natAbs)),tv (.bool (aC (k-k'))),.t (sU true (dg 4294967296 (k-k').natAbs)),tv (.bool (aC (k*k'))),.sl 7 0 ((dg 4294967296 (k*k').natAbs).length),tv (.bool (aC (-k))),.sl 8 0 ((dg 4294967296 (-k).natAbs).length),tv (.bool (aC (((k.natAbs:Nat):Int)))),.sl 9 0 ((dg 4294967296 (((k.natAbs:Nat):Int)).natAbs).length),tv (.bool (aC (((Int.gcd k k':Nat):Int)))),.sl 10 0 ((dg 4294967296 (((Int.gcd k k':Nat):Int)).natAbs).length),tv (.bool (aC (((if k'=0 then 0 else k.fdiv k'):Int)))),.sl 11 0 ((dg 4294967296 (((if k'=0 then 0 else k.fdiv k'):Int)).natAbs).length),tv (.bool (aC (((if k'=0 then 0 else k.fmod k'):Int)))),.sl 12 0 ((dg 4294967296 (((if k'=0 then 0 else k.fmod k'):Int)).natAbs).length)]⟩,⟨22,1,(aM (dg 4294967296 (k*k').natAbs)).map .t⟩,⟨22,1,(aM (dg 4294967296 (-k).natAbs)).map .t⟩,⟨22,1,(aM (dg 4294967296 (((k.natAbs:Nat):Int)).natAbs)).map .t⟩,⟨22,1,(aM (dg 4294967296 (((Int.gcd k k':Nat):Int)).natAbs)).map .t⟩,⟨22,1,(aM (dg 4294967296 (((if k'=0 then 0 else k.fdiv k'):Int)).natAbs)).map .t⟩,⟨22,1,(aM (dg 4294967296 (((if k'=0 then 0 else k.fmod k'):Int)).natAbs)).map .t⟩,⟨47,2,[tv (.bool (aC (k+k'))),.t (sU false (dg 4294967296 (k+k').natAbs)),tv (.bool (aC (k-k'))),.t (sU false (dg 4294967296 (k-k').natAbs)),tv (.bool (aC (k*k'))),.t (sU false (dg 4294967296 (k*k').natAbs)),tv (.bool (aC (-k))),.t (sU false (dg 4294967296 (-k).natAbs)),tv (.bool (aC (((k.natAbs:Nat):Int)))),.t (sU false (dg 4294967296 (((k.natAbs:Nat):Int)).natAbs)),tv (.bool (aC (((Int.gcd k k':Nat):Int)))),.t (sU false (dg 4294967296 (((Int.gcd k k':Nat):Int)).natAbs)),tv (.bool (aC (((if k'=0 then 0 else k.fdiv k'):Int)))),.t (sU false (dg 4294967296 (((if k'=0 then 0 else k.fdiv k'):Int)).natAbs)),tv (.bool (aC (((if k'=0 then 0 else k.fmod k'):Int)))),.t (sU false (dg 4294967296 (((if k'=0 then 0 else k.fmod k'):Int)).natAbs))]⟩] (by decide) ⟨rfl,rfl,rfl,rfl,rfl,rfl,rfl,rfl,rfl,rfl,rfl,rfl,trivial⟩ ⟨oe rfl rfl,oe rfl rfl,oe rfl rfl,oe rfl rfl,oe rfl rfl,oe rfl rfl,oe rfl rfl,cD rfl,cD rfl,cD rfl,cD rfl,cD rfl,cD rfl,oe rfl rfl,rfl⟩) ?_
  refine WP.sub (uV (j:=6) (k:=7) (p:=5) (e:=22) (z:=1) (n:=(dg 4294967296 (k*k').natAbs).length) (trs:=aM (dg 4294967296 (k*k').natAbs)) (l':=[tv (.bool (aC (k+k'))),.t (sU true (dg 4294967296 (k+k').natAbs)),tv (.bool (aC (k-k'))),.t (sU true (dg 4294967296 (k-k').natAbs)),tv (.bool (aC (k*k'))),.t (sU true (dg 4294967296 (k*k').natAbs)),tv (.bool (aC (-k))),.sl 8 0 ((dg 4294967296 (-k).natAbs).length),tv (.bool (aC (((k.natAbs:Nat):Int)))),.sl 9 0 ((dg 4294967296 (((k.natAbs:Nat):Int)).natAbs).length),tv (.bool (aC (((Int.gcd k k':Nat):Int)))),.sl 10 0 ((dg 4294967296 (((Int.gcd k k':Nat):Int)).natAbs).length),tv (.bool (aC (((if k'=0 then 0 else k.fdiv k'):Int)))),.sl 11 0 ((dg 4294967296 (((if k'=0 then 0 else k.fdiv k'):Int)).natAbs).length),tv (.bool (aC (((if k'=0 then 0 else k.fmod k'):Int)))),.sl 12 0 ((dg 4294967296 (((if k'=0 then 0 else k.fmod k'):Int)).natAbs).length)]) rfl rfl rfl rfl rfl (bP _) (bK _) rfl) ?_
  refine WP.sub (uV (j:=6) (k:=8) (p:=7) (e:=22) (z:=1) (n:=(dg 4294967296 (-k).natAbs).length) (trs:=aM (dg 4294967296 (-k).natAbs)) (l':=[tv (.bool (aC (k+k'))),.t (sU true (dg 4294967296 (k+k').natAbs)),tv (.bool (aC (k-k'))),.t (sU true (dg 4294967296 (k-k').natAbs)),tv (.bool (aC (k*k'))),.t (sU true (dg 4294967296 (k*k').natAbs)),tv (.bool (aC (-k))),.t (sU true (dg 4294967296 (-k).natAbs)),tv (.bool (aC (((k.natAbs:Nat):Int)))),.sl 9 0 ((dg 4294967296 (((k.natAbs:Nat):Int)).natAbs).length),tv (.bool (aC (((Int.gcd k k':Nat):Int)))),.sl 10 0 ((dg 4294967296 (((Int.gcd k k':Nat):Int)).natAbs).length),tv (.bool (aC (((if k'=0 then 0 else k.fdiv k'):Int)))),.sl 11 0 ((dg 4294967296 (((if k'=0 then 0 else k.fdiv k'):Int)).natAbs).length),tv (.bool (aC (((if k'=0 then 0 else k.fmod k'):Int)))),.sl 12 0 ((dg 4294967296 (((if k'=0 then 0 else k.fmod k'):Int)).natAbs).length)]) rfl rfl rfl rfl rfl (bP _) (bK _) rfl) ?_
  refine WP.sub (aJ h0 [0,1,2,3,4,5,6,9,10,11,12,13] [(2,.one (.pt 0 0)),(3,.one (.pt 1 0)),(5,.one (.pt 2 0)),(6,.one (.pt 3 0)),(7,.one (.pt 4 0)),(8,.one (.pt 5 0)),(9,.one (tv (.int .i64 (if k'=0 then 20 else 0)))),(10,.one (tv (.int .i64 ((t:Nat):Int)))),(11,.one (.sl 6 0 (6+2))),(12,.one (.sl 11 0 (6+2))),(15,.one (tv (.int .i64 (if k'=0 then 20 else 0)))),(16,.one (tv (.int .i64 ((0:Nat):Int))))] [(⟨44,0,[tv (.bool a.s),.t (sU false a.x)]⟩:Ob),⟨44,0,[tv (.bool b.s),.t (sU false b.x)]⟩,⟨47,0,[tv (.bool a.s),.t (sU false a.x)]⟩,⟨47,0,[tv (.bool b.s),.t (sU false b.x)]⟩,⟨47,0,[tv (.bool (aC (((if k'=0 then 0 else k.fdiv k'):Int)))),.t (sU false (dg 4294967296 (((if k'=0 then 0 else k.fdiv k'):Int)).natAbs))]⟩,⟨47,0,[tv (.bool (aC (((if k'=0 then 0 else k.fmod k'):Int)))),.t (sU false (dg 4294967296 (((if k'=0 then 0 else k.fmod k'):Int)).natAbs))]⟩,⟨44,2,[tv (.bool (aC (k+k'))),.t (sU true (dg 4294967296 (k+k').natAbs)),tv (.bool (aC (k-k'))),.t (sU true (dg 4294967296 (k-k').natAbs)),tv (.bool (aC (k*k'))),.t (sU true (dg 4294967296 (k*k').natAbs)),tv (.bool (aC (-k))),.t (sU true (dg 4294967296 (-k).natAbs)),tv (.bool (aC (((k.natAbs:Nat):Int)))),.sl 7 0 ((dg 4294967296 (((k.natAbs:Nat):Int)).natAbs).length),tv (.bool (aC (((Int.gcd k k':Nat):Int)))),.sl 8 0 ((dg 4294967296 (((Int.gcd k k':Nat):Int)).natAbs).length),tv (.bool (aC (((if k'=0 then 0 else k.fdiv k'):Int)))),.sl 9 0 ((dg 4294967296 (((if k'=0 then 0 else k.fdiv k'):Int)).natAbs).length),tv (.bool (aC (((if k'=0 then 0 else k.fmod k'):Int)))),.sl 10 0 ((dg 4294967296 (((if k'=0 then 0 else k.fmod k'):Int)).natAbs).length)]⟩,⟨22,1,(aM (dg 4294967296 (((k.natAbs:Nat):Int)).natAbs)).map .t⟩,⟨22,1,(aM (dg 4294967296 (((Int.gcd k k':Nat):Int)).natAbs)).map .t⟩,⟨22,1,(aM (dg 4294967296 (((if k'=0 then 0 else k.fdiv k'):Int)).natAbs)).map .t⟩,⟨22,1,(aM (dg 4294967296 (((if k'=0 then 0 else k.fmod k'):Int)).natAbs)).map .t⟩,⟨47,2,[tv (.bool (aC (k+k'))),.t (sU false (dg 4294967296 (k+k').natAbs)),tv (.bool (aC (k-k'))),.t (sU false (dg 4294967296 (k-k').natAbs)),tv (.bool (aC (k*k'))),.t (sU false (dg 4294967296 (k*k').natAbs)),tv (.bool (aC (-k))),.t (sU false (dg 4294967296 (-k).natAbs)),tv (.bool (aC (((k.natAbs:Nat):Int)))),.t (sU false (dg 4294967296 (((k.natAbs:Nat):Int)).natAbs)),tv (.bool (aC (((Int.gcd k k':Nat):Int)))),.t (sU false (dg 4294967296 (((Int.gcd k k':Nat):Int)).natAbs)),tv (.bool (aC (((if k'=0 then 0 else k.fdiv k'):Int)))),.t (sU false (dg 4294967296 (((if k'=0 then 0 else k.fdiv k'):Int)).natAbs)),tv (.bool (aC (((if k'=0 then 0 else k.fmod k'):Int)))),.t (sU false (dg 4294967296 (((if k'=0 then 0 else k.fmod k'):Int)).natAbs))]⟩] (by decide) ⟨rfl,rfl,rfl,rfl,rfl,rfl,rfl,rfl,rfl,rfl,rfl,rfl,trivial⟩ ⟨oe rfl rfl,oe rfl rfl,oe rfl rfl,oe rfl rfl,oe rfl rfl,oe rfl rfl,oe rfl rfl,cD rfl,cD rfl,cD rfl,cD rfl,oe rfl rfl,rfl⟩) ?_
  refine WP.sub (uV (j:=6) (k:=7) (p:=9) (e:=22) (z:=1) (n:=(dg 4294967296 (((k.natAbs:Nat):Int)).natAbs).length) (trs:=aM (dg 4294967296 (((k.natAbs:Nat):Int)).natAbs)) (l':=[tv (.bool (aC (k+k'))),.t (sU true (dg 4294967296 (k+k').natAbs)),tv (.bool (aC (k-k'))),.t (sU true (dg 4294967296 (k-k').natAbs)),tv (.bool (aC (k*k'))),.t (sU true (dg 4294967296 (k*k').natAbs)),tv (.bool (aC (-k))),.t (sU true (dg 4294967296 (-k).natAbs)),tv (.bool (aC (((k.natAbs:Nat):Int)))),.t (sU true (dg 4294967296 (((k.natAbs:Nat):Int)).natAbs)),tv (.bool (aC (((Int.gcd k k':Nat):Int)))),.sl 8 0 ((dg 4294967296 (((Int.gcd k k':Nat):Int)).natAbs).length),tv (.bool (aC (((if k'=0 then 0 else k.fdiv k'):Int)))),.sl 9 0 ((dg 4294967296 (((if k'=0 then 0 else k.fdiv k'):Int)).natAbs).length),tv (.bool (aC (((if k'=0 then 0 else k.fmod k'):Int)))),.sl 10 0 ((dg 4294967296 (((if k'=0 then 0 else k.fmod k'):Int)).natAbs).length)]) rfl rfl rfl rfl rfl (bP _) (bK _) rfl) ?_
  refine WP.sub (uV (j:=6) (k:=8) (p:=11) (e:=22) (z:=1) (n:=(dg 4294967296 (((Int.gcd k k':Nat):Int)).natAbs).length) (trs:=aM (dg 4294967296 (((Int.gcd k k':Nat):Int)).natAbs)) (l':=[tv (.bool (aC (k+k'))),.t (sU true (dg 4294967296 (k+k').natAbs)),tv (.bool (aC (k-k'))),.t (sU true (dg 4294967296 (k-k').natAbs)),tv (.bool (aC (k*k'))),.t (sU true (dg 4294967296 (k*k').natAbs)),tv (.bool (aC (-k))),.t (sU true (dg 4294967296 (-k).natAbs)),tv (.bool (aC (((k.natAbs:Nat):Int)))),.t (sU true (dg 4294967296 (((k.natAbs:Nat):Int)).natAbs)),tv (.bool (aC (((Int.gcd k k':Nat):Int)))),.t (sU true (dg 4294967296 (((Int.gcd k k':Nat):Int)).natAbs)),tv (.bool (aC (((if k'=0 then 0 else k.fdiv k'):Int)))),.sl 9 0 ((dg 4294967296 (((if k'=0 then 0 else k.fdiv k'):Int)).natAbs).length),tv (.bool (aC (((if k'=0 then 0 else k.fmod k'):Int)))),.sl 10 0 ((dg 4294967296 (((if k'=0 then 0 else k.fmod k'):Int)).natAbs).length)]) rfl rfl rfl rfl rfl (bP _) (bK _) rfl) ?_
  refine WP.sub (aJ h0 [0,1,2,3,4,5,6,9,10,11] [(2,.one (.pt 0 0)),(3,.one (.pt 1 0)),(5,.one (.pt 2 0)),(6,.one (.pt 3 0)),(7,.one (.pt 4 0)),(8,.one (.pt 5 0)),(9,.one (tv (.int .i64 (if k'=0 then 20 else 0)))),(10,.one (tv (.int .i64 ((t:Nat):Int)))),(11,.one (.sl 6 0 (6+2))),(12,.one (.sl 9 0 (6+2))),(15,.one (tv (.int .i64 (if k'=0 then 20 else 0)))),(16,.one (tv (.int .i64 ((0:Nat):Int))))] [(⟨44,0,[tv (.bool a.s),.t (sU false a.x)]⟩:Ob),⟨44,0,[tv (.bool b.s),.t (sU false b.x)]⟩,⟨47,0,[tv (.bool a.s),.t (sU false a.x)]⟩,⟨47,0,[tv (.bool b.s),.t (sU false b.x)]⟩,⟨47,0,[tv (.bool (aC (((if k'=0 then 0 else k.fdiv k'):Int)))),.t (sU false (dg 4294967296 (((if k'=0 then 0 else k.fdiv k'):Int)).natAbs))]⟩,⟨47,0,[tv (.bool (aC (((if k'=0 then 0 else k.fmod k'):Int)))),.t (sU false (dg 4294967296 (((if k'=0 then 0 else k.fmod k'):Int)).natAbs))]⟩,⟨44,2,[tv (.bool (aC (k+k'))),.t (sU true (dg 4294967296 (k+k').natAbs)),tv (.bool (aC (k-k'))),.t (sU true (dg 4294967296 (k-k').natAbs)),tv (.bool (aC (k*k'))),.t (sU true (dg 4294967296 (k*k').natAbs)),tv (.bool (aC (-k))),.t (sU true (dg 4294967296 (-k).natAbs)),tv (.bool (aC (((k.natAbs:Nat):Int)))),.t (sU true (dg 4294967296 (((k.natAbs:Nat):Int)).natAbs)),tv (.bool (aC (((Int.gcd k k':Nat):Int)))),.t (sU true (dg 4294967296 (((Int.gcd k k':Nat):Int)).natAbs)),tv (.bool (aC (((if k'=0 then 0 else k.fdiv k'):Int)))),.sl 7 0 ((dg 4294967296 (((if k'=0 then 0 else k.fdiv k'):Int)).natAbs).length),tv (.bool (aC (((if k'=0 then 0 else k.fmod k'):Int)))),.sl 8 0 ((dg 4294967296 (((if k'=0 then 0 else k.fmod k'):Int)).natAbs).length)]⟩,⟨22,1,(aM (dg 4294967296 (((if k'=0 then 0 else k.fdiv k'):Int)).natAbs)).map .t⟩,⟨22,1,(aM (dg 4294967296 (((if k'=0 then 0 else k.fmod k'):Int)).natAbs)).map .t⟩,⟨47,2,[tv (.bool (aC (k+k'))),.t (sU false (dg 4294967296 (k+k').natAbs)),tv (.bool (aC (k-k'))),.t (sU false (dg 4294967296 (k-k').natAbs)),tv (.bool (aC (k*k'))),.t (sU false (dg 4294967296 (k*k').natAbs)),tv (.bool (aC (-k))),.t (sU false (dg 4294967296 (-k).natAbs)),tv (.bool (aC (((k.natAbs:Nat):Int)))),.t (sU false (dg 4294967296 (((k.natAbs:Nat):Int)).natAbs)),tv (.bool (aC (((Int.gcd k k':Nat):Int)))),.t (sU false (dg 4294967296 (((Int.gcd k k':Nat):Int)).natAbs)),tv (.bool (aC (((if k'=0 then 0 else k.fdiv k'):Int)))),.t (sU false (dg 4294967296 (((if k'=0 then 0 else k.fdiv k'):Int)).natAbs)),tv (.bool (aC (((if k'=0 then 0 else k.fmod k'):Int)))),.t (sU false (dg 4294967296 (((if k'=0 then 0 else k.fmod k'):Int)).natAbs))]⟩] (by decide) ⟨rfl,rfl,rfl,rfl,rfl,rfl,rfl,rfl,rfl,rfl,rfl,rfl,trivial⟩ ⟨oe rfl rfl,oe rfl rfl,oe rfl rfl,oe rfl rfl,oe rfl rfl,oe rfl rfl,oe rfl rfl,cD rfl,cD rfl,oe rfl rfl,rfl⟩) ?_
  refine WP.sub (uV (j:=6) (k:=7) (p:=13) (e:=22) (z:=1) (n:=(dg 4294967296 (((if k'=0 then 0 else k.fdiv k'):Int)).natAbs).length) (trs:=aM (dg 4294967296 (((if k'=0 then 0 else k.fdiv k'):Int)).natAbs)) (l':=[tv (.bool (aC (k+k'))),.t (sU true (dg 4294967296 (k+k').natAbs)),tv (.bool (aC (k-k'))),.t (sU true (dg 4294967296 (k-k').natAbs)),tv (.bool (aC (k*k'))),.t (sU true (dg 4294967296 (k*k').natAbs)),tv (.bool (aC (-k))),.t (sU true (dg 4294967296 (-k).natAbs)),tv (.bool (aC (((k.natAbs:Nat):Int)))),.t (sU true (dg 4294967296 (((k.natAbs:Nat):Int)).natAbs)),tv (.bool (aC (((Int.gcd k k':Nat):Int)))),.t (sU true (dg 4294967296 (((Int.gcd k k':Nat):Int)).natAbs)),tv (.bool (aC (((if k'=0 then 0 else k.fdiv k'):Int)))),.t (sU true (dg 4294967296 (((if k'=0 then 0 else k.fdiv k'):Int)).natAbs)),tv (.bool (aC (((if k'=0 then 0 else k.fmod k'):Int)))),.sl 8 0 ((dg 4294967296 (((if k'=0 then 0 else k.fmod k'):Int)).natAbs).length)]) rfl rfl rfl rfl rfl (bP _) (bK _) rfl) ?_
  refine WP.sub (uV (j:=6) (k:=8) (p:=15) (e:=22) (z:=1) (n:=(dg 4294967296 (((if k'=0 then 0 else k.fmod k'):Int)).natAbs).length) (trs:=aM (dg 4294967296 (((if k'=0 then 0 else k.fmod k'):Int)).natAbs)) (l':=[tv (.bool (aC (k+k'))),.t (sU true (dg 4294967296 (k+k').natAbs)),tv (.bool (aC (k-k'))),.t (sU true (dg 4294967296 (k-k').natAbs)),tv (.bool (aC (k*k'))),.t (sU true (dg 4294967296 (k*k').natAbs)),tv (.bool (aC (-k))),.t (sU true (dg 4294967296 (-k).natAbs)),tv (.bool (aC (((k.natAbs:Nat):Int)))),.t (sU true (dg 4294967296 (((k.natAbs:Nat):Int)).natAbs)),tv (.bool (aC (((Int.gcd k k':Nat):Int)))),.t (sU true (dg 4294967296 (((Int.gcd k k':Nat):Int)).natAbs)),tv (.bool (aC (((if k'=0 then 0 else k.fdiv k'):Int)))),.t (sU true (dg 4294967296 (((if k'=0 then 0 else k.fdiv k'):Int)).natAbs)),tv (.bool (aC (((if k'=0 then 0 else k.fmod k'):Int)))),.t (sU true (dg 4294967296 (((if k'=0 then 0 else k.fmod k'):Int)).natAbs))]) rfl rfl rfl rfl rfl (bP _) (bK _) rfl) ?_
  refine lp (γ:=Nat×List Zi) (fun s=>cJ [(2,.one (.pt 0 0)),(3,.one (.pt 1 0)),(5,.one (.pt 2 0)),(6,.one (.pt 3 0)),(7,.one (.pt 4 0)),(8,.one (.pt 5 0)),(9,.one (tv (.int .i64 (if k'=0 then 20 else 0)))),(10,.one (tv (.int .i64 ((t:Nat):Int)))),(11,.one (.sl 6 0 (6+2))),(12,.one (.sl 7 0 (6+2))),(15,.one (tv (.int .i64 (if k'=0 then 20 else 0)))),(16,.one (tv (.int .i64 ((s.1:Nat):Int))))]) (fun s=>[(⟨44,0,[tv (.bool a.s),.t (sU false a.x)]⟩:Ob),⟨44,0,[tv (.bool b.s),.t (sU false b.x)]⟩,⟨47,0,[tv (.bool a.s),.t (sU false a.x)]⟩,⟨47,0,[tv (.bool b.s),.t (sU false b.x)]⟩,⟨47,0,[tv (.bool (aC (((if k'=0 then 0 else k.fdiv k'):Int)))),.t (sU false (dg 4294967296 (((if k'=0 then 0 else k.fdiv k'):Int)).natAbs))]⟩,⟨47,0,[tv (.bool (aC (((if k'=0 then 0 else k.fmod k'):Int)))),.t (sU false (dg 4294967296 (((if k'=0 then 0 else k.fmod k'):Int)).natAbs))]⟩,⟨44,2,(s.2.flatMap (dU true)).map .t⟩,⟨47,2,((xQ k k').flatMap (dU false)).map .t⟩].map some) (fun s=>s.1≤8∧s.2.length=8∧∀j,s.1≤j→dE s.2 j=dE (xQ k k') j) (fun s=>8-s.1) (0,(xQ k k')) ⟨Nat.zero_le _,rfl,fun _ _=>rfl⟩ (aJ h0 [0,1,2,3,4,5,6,9] _ _ (by decide) ⟨rfl,rfl,rfl,rfl,rfl,rfl,rfl,rfl,rfl,rfl,rfl,rfl,trivial⟩ ⟨oe rfl rfl,oe rfl rfl,oe rfl rfl,oe rfl rfl,oe rfl rfl,oe rfl rfl,cD rfl,cD rfl,rfl⟩) ?_
  rintro⟨i,ws⟩ ⟨hi,hwl,hws⟩;dsimp only at hi hwl hws⊢;refine sq ?_;refine sq ?_;refine rl ?_;(iterate 4 refine o1 ?_);refine nl ?_;refine bU rfl (fun h4=>?_) (fun h4=>?_)
  ·refine sk ?_;refine sq ?_;refine bl ?_;refine sq ?_;refine sq ?_;have hi8:i<8:=by omega
   obtain⟨z,hZ⟩:∃z,dE (xQ k k') i=z:=⟨_,rfl⟩
   have e9:=(hws i (Nat.le_refl _)).trans hZ
   have hz1:z.x.length≤61:=hZ▸Vg hk hk' hi8
   refine WP.sub (DC (j:=6) (key:=8) (p:=0+i*2+1) (e:=22) (z:=1) (n:=z.x.length) (trs:=aM z.x) rfl rfl rfl (e9▸Pi (zs:=ws) (i:=i) (by omega)) rfl) ?_
   refine rd [0,1,2,3,4,5,6,7] (fun i=>[].contains i) mixed ?_
   refine dv 0 ?_;refine dv 1 ?_;refine dv 2 ?_;refine Vl 3 (us:=[tv (.bool z.s),.sl 8 0 z.x.length]) (e9▸zZ (zs:=ws) (i:=i) (by omega)) ?_
   refine dv 4 ?_;refine dv 5 ?_;refine dv 6 ?_;refine Vl 7 (us:=(dU false z).map .t) (hZ▸Iz (zs:=(xQ k k')) (i:=i) hi8) ?_
   refine aD 8 rfl (kT (a:=z) (by omega)) tG ⟨Pl rfl (.cons .t (.cons (.sl rfl rfl (mV _) (bK _)) .nil)),aB rfl,rfl⟩ (.one (tv (.bool true))) ?_
   refine df 9 ?_;refine aP ?_;refine eR rfl ?_;refine sk ?_;refine rl ?_;(iterate 3 refine o1 ?_)
   refine DD (us:=[tv (.bool z.s),.sl 8 0 z.x.length]) (e9▸zZ (zs:=ws) (i:=i) (by omega)) ?_
   refine cl 9 [8] (Rg (a:=z) (by omega)) BL ⟨cD rfl,rfl⟩ ⟨rfl,rfl⟩ (ok:=[some ⟨22,1,(aM (List.replicate z.x.length 77)).map .t⟩]) ⟨cD rfl,rfl⟩ ?_
   refine nl ?_
   refine WP.sub (uV (j:=6) (k:=8) (p:=0+i*2+1) (e:=22) (z:=1) (n:=z.x.length) (trs:=aM (List.replicate z.x.length 77)) (l':=((ws.set i ⟨z.s,(List.replicate z.x.length 77)⟩).flatMap (dU true)).map .t) rfl rfl rfl rfl (List.getElem?_set_self (by rw[List.length_map,mR (fY true),hwl];omega)) (by have:=bP (List.replicate z.x.length 77);rwa[List.length_replicate]at this) (by have:=bK (List.replicate z.x.length 77);rwa[List.length_replicate]at this) (by have h9:=Ja (y:=.sl 8 0 z.x.length) (xs:=(List.replicate z.x.length 77)) (zs:=ws) (i:=i) (by omega);rw[e9,sU,List.length_replicate]at h9;exact h9)) ?_
   refine rl ?_;refine o1 ?_;refine o1 ?_;refine WL.cast (t:=99) (u':=.int .i64 ((i+1:Nat):Int)) rfl (aH (by omega)) ?_
   refine o1 ?_;refine nl ?_
   exact⟨(i+1,ws.set i ⟨z.s,List.replicate z.x.length 77⟩),by dsimp only;omega,⟨by dsimp only;omega,by dsimp only;rw[List.length_set];exact hwl,fun j hj=>(Nd (by dsimp only at hj;omega)).trans (hws j (by dsimp only at hj;omega))⟩,aJ h0 [0,1,2,3,4,5,6,7] _ _ (by decide) ⟨rfl,rfl,rfl,rfl,rfl,rfl,rfl,rfl,rfl,rfl,rfl,rfl,trivial⟩ ⟨oe rfl rfl,oe rfl rfl,oe rfl rfl,oe rfl rfl,oe rfl rfl,oe rfl rfl,cD rfl,cD rfl,rfl⟩⟩
  refine ex ?_;refine sq ?_;refine rl ?_;(iterate 3 refine o1 ?_);refine WL.cast (t:=117) (u':=.bool false) rfl (congrArg Value.bool (decide_eq_false fun h=>h rfl)) ?_
  refine nl ?_;refine eR rfl ?_;refine sk ?_;refine rl ?_;refine o1 ?_;refine o1 ?_;refine WL.cast (t:=42) (u':=.int .i64 ((t+1:Nat):Int)) rfl (aH (by omega)) ?_
  refine o1 ?_;refine nl ?_
  exact⟨t+1,by omega,⟨by omega,trivial⟩,aJ h0 [0,1,2,3,4,5] _ _ (by decide) ⟨rfl,rfl,rfl,rfl,rfl,rfl,rfl,rfl,trivial⟩ ⟨oe rfl rfl,oe rfl rfl,oe rfl rfl,oe rfl rfl,oe rfl rfl,oe rfl rfl,rfl⟩⟩
 refine ex ?_;refine sq ?_;refine rd [0,1,2,3,4,5] (fun i=>[34].contains i) mixed ?_
 refine aK 0 ?_;refine aK 2 ?_;refine aD 1 rfl (oK ha.g) zX ⟨aB rfl,rfl⟩ (.one (tv (.bool (cK a.s a.x)))) ?_
 refine aD 3 rfl (Aa ha) Vm ⟨aB rfl,rfl⟩ (.one (tv (.bool (cK a.s a.x)))) ?_;refine df 4 ?_
 refine WD.cast (t:=122) (u':=.bool true) rfl (congrArg Value.bool (beq_self_eq_true _)) ?_;refine df 5 ?_;refine aK 6 ?_;refine aK 7 ?_;refine aK 9 ?_;refine aK 10 ?_
 refine aD 8 rfl (lC ha.g hb.g (Nat.le_trans (bC (by omega) (Pj (z:=k-k') hk hk' (by simp))) (by omega))) nV ⟨aB rfl,aB rfl,rfl⟩ (.one (tv (.int .i64 (k-k').sign))) ?_
 refine aD 11 rfl (uK ha hb) Fv ⟨aB rfl,aB rfl,rfl⟩ (.one (tv (.int .i64 (k-k').sign))) ?_;refine df 12 ?_
 refine WD.cast (t:=130) (u':=.bool true) rfl (congrArg Value.bool (decide_eq_true rfl)) ?_;refine df 13 ?_;refine df 14 ?_;refine aK 15 ?_;refine aK 17 ?_
 refine aD 16 rfl (dF ha.g) eY ⟨aB rfl,rfl⟩ (.one (tv (.int .i64 k.sign))) ?_;refine aD 18 rfl (rW ha) Gc ⟨aB rfl,rfl⟩ (.one (tv (.int .i64 k.sign))) ?_;refine df 19 ?_
 refine WD.cast (t:=137) (u':=.bool true) rfl (congrArg Value.bool (decide_eq_true rfl)) ?_;refine df 20 ?_;refine df 21 ?_;refine aK 22 ?_;refine aK 23 ?_
 refine aD 24 rfl (kT (a:=a) (by omega)) tG ⟨aB rfl,aB rfl,rfl⟩ (.one (tv (.bool true))) ?_
 refine df 25 ?_;refine df 26 ?_;refine aK 27 ?_;refine aK 28 ?_;refine aD 29 rfl (kT (a:=b) (by omega)) tG ⟨aB rfl,aB rfl,rfl⟩ (.one (tv (.bool true))) ?_
 refine df 30 ?_;refine df 31 ?_;refine aD 32 rfl (dD) fU rfl (.one (tv (.bool true))) ?_;refine df 33 ?_
 refine gR 34 (by kernel_rfl) rfl rfl aA rfl (by trivial) ?_ (fun h=>by first | rfl | cases h)
 refine aP ?_;refine rt ?_;exact fS (.inl rfl) rfl (rfl)
def zT (xs:List Int):List Tr:=xs.map fun n=>.v (.int .i64 n)
def aY (xs:List Int) (k:Nat):Int:=xs.getD k 0
theorem nW:∀(xs:List Int){k:Nat},k<xs.length→((zT xs).drop (k*1)).take [Tr.v (.int .i64 (aY xs k))].length=[Tr.v (.int .i64 (aY xs k))]
 | [],_,h=>by simp at h
 | _::_,0,_=>rfl
 | _::xs,k+1,h=>by
  have:=nW xs (k:=k) (by simpa using h)
  simp only[Nat.mul_one]at this⊢
  exact this
def tT (ls:List (List Nat)):List Tr:=ls.map fun l=>.v (.string (aW l))
def tM (ls:List (List Nat)) (k:Nat):List Nat:=ls.getD k []
theorem Vn:∀(ls:List (List Nat)){k:Nat},k<ls.length→((tT ls).drop (k*1)).take [Tr.v (.string (aW (tM ls k)))].length=[Tr.v (.string (aW (tM ls k)))]
 | [],_,h=>by simp at h
 | _::_,0,_=>rfl
 | _::ls,k+1,h=>by
  have:=Vn ls (k:=k) (by simpa using h)
  simp only[Nat.mul_one]at this⊢
  exact this
def bJ:List Int:=[0,1,-1,2,7,-10,4294967295,4294967296,-4294967296,-4294967297,9223372036854775807,-9223372036854775808,4611686018427387904]
def oL:List (List Nat):=[[],[45],[45,48],[48],[48,48],[45,48,55],[43,49],[49,32],[45,45,49],[49,50,97],[49,50,51,52,53,54,55,56,57,48,49,50,51,52,53,54,55,56,57,48,49,50,51,52,53,54,55,56,57,48]]
def iU:List Zi:=[⟨true,[]⟩,⟨false,[0]⟩,⟨true,[5,0]⟩]
theorem bS (k:Nat):-9223372036854775808≤aY bJ k∧aY bJ k≤9223372036854775807:=by
 rcases Nat.lt_or_ge k bJ.length with h | h
 ·have h1:∀n∈bJ,-9223372036854775808≤n∧n≤9223372036854775807:=by decide
  refine h1 _ ?_
  unfold aY
  rw[List.getD_eq_getElem?_getD,List.getElem?_eq_getElem h]
  exact List.getElem_mem h
 unfold aY
 rw[List.getD_eq_getElem?_getD,List.getElem?_eq_none h]
 decide
theorem Ri (k:Nat):Lim 256 (tM oL k):=by
 rcases Nat.lt_or_ge k oL.length with h | h
 ·have h1:∀l∈oL,∀x∈l,x<256:=by decide
  refine h1 _ ?_
  unfold tM
  rw[List.getD_eq_getElem?_getD,List.getElem?_eq_getElem h]
  exact List.getElem_mem h
 unfold tM
 rw[List.getD_eq_getElem?_getD,List.getElem?_eq_none h]
 exact Lim.nil
theorem Dm:∀a∈iU,Lim 4294967296 a.x:=by
 intro a ha
 have h1:∀l∈[[],[0],[5,0]],∀x∈l,x<4294967296:=by decide
 simp only[iU,List.mem_cons,List.not_mem_nil,or_false]at ha
 rcases ha with rfl | rfl | rfl
 ·exact h1 [] (by simp)
 ·exact h1 [0] (by simp)
 exact h1 [5,0] (by simp)
theorem wL {k:Nat}(h:k<iU.length):Lim 4294967296 (dE iU k).x:=Dm _ (tL h)
theorem fK (k:Nat):Ln (aY bJ k)≤2:=zN (bS k).1 (bS k).2
theorem Je {x y:Int}:∀a∈([.of x,.of y,.of x]:List Zi),Lim 4294967296 a.x:=by
 intro a ha
 simp only[List.mem_cons,List.not_mem_nil,or_false]at ha
 rcases ha with rfl | rfl | rfl <;> exact aF (by omega) _
set_option maxHeartbeats 4000000 in
theorem Fp:aL true Tryz.prog 7 [] [] (aU (.one (tv (.bool true)))):=by
 refine cF Tryz.func7 rfl Tryz.ntmps7 rfl aA rfl fun N9 w9 c0 h0=>?_
 have hn1:bJ.length=13:=rfl
 have hn2:oL.length=11:=rfl
 have hn3:iU.length=3:=rfl
 refine sq ?_;refine rl ?_;refine o1 ?_;refine nl ?_;refine sq ?_;refine rl ?_;refine bs 0 ?_;refine o1 ?_;refine nl ?_;refine sq ?_;refine sq ?_;refine rl ?_
 refine WL.sub (fz (i:=1) (k:=0) (t:=2) (z:=1) (n:=13) (l:=zT bJ) rfl rfl rfl rfl) ?_;refine o1 ?_;refine nl ?_;refine bl ?_
 refine lp (γ:=Nat) (fun i=>cJ [(1,.one (.t (.s false 2 1 bJ.length (zT bJ)))),(2,.one (tv (.int .i64 ((i:Nat):Int))))]) (fun i=>([]:List Ob).map some) (fun i=>i≤bJ.length∧True) (fun i=>bJ.length-i) 0 ⟨Nat.zero_le _,trivial⟩ (aJ h0 [] _ _ (by decide) ⟨rfl,rfl,trivial⟩ rfl) fun i hi=>?_
 refine sq ?_;refine sq ?_;refine rl ?_;(iterate 4 refine o1 ?_);refine nl ?_;refine bU rfl (fun h1=>?_) (fun h1=>?_)
 ·refine sk ?_;refine sq ?_;refine bl ?_;refine sq ?_;refine sq ?_;refine rl ?_;refine o1 ?_;refine nl ?_;refine bl ?_
  refine lp (γ:=Nat) (fun j=>cJ [(1,.one (.t (.s false 2 1 bJ.length (zT bJ)))),(2,.one (tv (.int .i64 ((i:Nat):Int)))),(3,.one (tv (.int .i64 ((j:Nat):Int))))]) (fun j=>([]:List Ob).map some) (fun j=>j≤bJ.length∧True) (fun j=>bJ.length-j) 0 ⟨Nat.zero_le _,trivial⟩ (aJ h0 [] _ _ (by decide) ⟨rfl,rfl,rfl,trivial⟩ rfl) fun j hj=>?_
  refine sq ?_;refine sq ?_;refine rl ?_;(iterate 4 refine o1 ?_);refine nl ?_;refine bU rfl (fun h2=>?_) (fun h2=>?_)
  ·refine sk ?_;refine sq ?_;refine bl ?_
   refine md (γ:=Unit) (fun _=>cJ [(1,.one (.t (.s false 2 1 bJ.length (zT bJ)))),(2,.one (tv (.int .i64 ((i:Nat):Int)))),(3,.one (tv (.int .i64 ((j:Nat):Int)))),(4,.one (.pt 0 0)),(5,.one (.pt 1 0))]) (fun _=>([⟨44,0,[tv (.bool (aC ((aY bJ (i))))),.t (sU false (dg 4294967296 ((aY bJ (i))).natAbs))]⟩,⟨44,0,[tv (.bool (aC ((aY bJ (j))))),.t (sU false (dg 4294967296 ((aY bJ (j))).natAbs))]⟩]:List Ob).map some) (fun _=>True) ?_ fun _ _=>?_
   ·refine rd [] (fun i=>[13].contains i) mixed ?_
    refine dv 0 ?_;refine dv 1 ?_;refine dv 2 ?_;refine gD 3 ([.v (.int .i64 (aY bJ (i)))]) (nW bJ (k:=i) (by omega)) ?_
    refine dv 5 ?_;refine dv 6 ?_;refine dv 7 ?_;refine gD 8 ([.v (.int .i64 (aY bJ (j)))]) (nW bJ (k:=j) (by omega)) ?_
    refine WO.three (i:=4) (j:=10) (m:=11) (by kernel_rfl) ?_ ?_ ?_
    ·refine cP 4 rfl (cR (n:=(aY bJ (i))) (bS _).1 (bS _).2) cS ⟨a1 rfl,rfl⟩ (kF ((aY bJ (i)))) ?_;refine WO.three (i:=9) (j:=10) (m:=11) (by kernel_rfl) ?_ ?_ ?_
     ·refine cP 9 rfl (cR (n:=(aY bJ (j))) (bS _).1 (bS _).2) cS ⟨a1 rfl,rfl⟩ (kF ((aY bJ (j)))) ?_;refine WO.two (i:=10) (j:=11) (by kernel_rfl) ?_ ?_
      ·refine bD (key:=0) 10 rfl rfl aA rfl trivial ?_;refine dA (key:=1) 11 (by kernel_rfl) rfl rfl aA rfl trivial ?_
       refine aN 12 (by kernel_rfl) rfl rfl aA rfl rfl rfl rfl trivial ?_
       refine dst 13 ?_;refine aP ?_;exact⟨(),trivial,aJ h0 [0,1] _ _ (by decide) ⟨rfl,rfl,rfl,rfl,rfl,trivial⟩ ⟨oe rfl rfl,oe rfl rfl,rfl⟩⟩
      refine bD (key:=0) 11 rfl rfl aA rfl trivial ?_;refine dA (key:=1) 10 (by kernel_rfl) rfl rfl aA rfl trivial ?_
      refine aN 12 (by kernel_rfl) rfl rfl aA rfl rfl rfl rfl trivial ?_
      refine dst 13 ?_;refine aP ?_;exact⟨(),trivial,aJ h0 [1,0] _ _ (by decide) ⟨rfl,rfl,rfl,rfl,rfl,trivial⟩ ⟨oe rfl rfl,oe rfl rfl,rfl⟩⟩
     ·refine bD (key:=0) 10 rfl rfl aA rfl trivial ?_;refine WO.two (i:=9) (j:=11) (by kernel_rfl) ?_ ?_
      ·refine cP 9 rfl (cR (n:=(aY bJ (j))) (bS _).1 (bS _).2) cS ⟨a1 rfl,rfl⟩ (kF ((aY bJ (j)))) ?_;refine dA (key:=1) 11 (by kernel_rfl) rfl rfl aA rfl trivial ?_
       refine aN 12 (by kernel_rfl) rfl rfl aA rfl rfl rfl rfl trivial ?_
       refine dst 13 ?_;refine aP ?_;exact⟨(),trivial,aJ h0 [0,1] _ _ (by decide) ⟨rfl,rfl,rfl,rfl,rfl,trivial⟩ ⟨oe rfl rfl,oe rfl rfl,rfl⟩⟩
      refine bD (key:=1) 11 rfl rfl aA rfl trivial ?_;refine aD 9 rfl (cR (n:=(aY bJ (j))) (bS _).1 (bS _).2) cS ⟨a1 rfl,rfl⟩ (kF ((aY bJ (j)))) ?_
      refine aN 12 (by kernel_rfl) rfl rfl aA rfl rfl rfl rfl trivial ?_
      refine dst 13 ?_;refine aP ?_;exact⟨(),trivial,aJ h0 [0,1] _ _ (by decide) ⟨rfl,rfl,rfl,rfl,rfl,trivial⟩ ⟨oe rfl rfl,oe rfl rfl,rfl⟩⟩
     refine bD (key:=0) 11 rfl rfl aA rfl trivial ?_;refine WO.two (i:=9) (j:=10) (by kernel_rfl) ?_ ?_
     ·refine cP 9 rfl (cR (n:=(aY bJ (j))) (bS _).1 (bS _).2) cS ⟨a1 rfl,rfl⟩ (kF ((aY bJ (j)))) ?_;refine dA (key:=1) 10 (by kernel_rfl) rfl rfl aA rfl trivial ?_
      refine aN 12 (by kernel_rfl) rfl rfl aA rfl rfl rfl rfl trivial ?_
      refine dst 13 ?_;refine aP ?_;exact⟨(),trivial,aJ h0 [1,0] _ _ (by decide) ⟨rfl,rfl,rfl,rfl,rfl,trivial⟩ ⟨oe rfl rfl,oe rfl rfl,rfl⟩⟩
     refine bD (key:=1) 10 rfl rfl aA rfl trivial ?_;refine aD 9 rfl (cR (n:=(aY bJ (j))) (bS _).1 (bS _).2) cS ⟨a1 rfl,rfl⟩ (kF ((aY bJ (j)))) ?_
     refine aN 12 (by kernel_rfl) rfl rfl aA rfl rfl rfl rfl trivial ?_
     refine dst 13 ?_;refine aP ?_;exact⟨(),trivial,aJ h0 [1,0] _ _ (by decide) ⟨rfl,rfl,rfl,rfl,rfl,trivial⟩ ⟨oe rfl rfl,oe rfl rfl,rfl⟩⟩
    ·refine bD (key:=0) 10 rfl rfl aA rfl trivial ?_;refine WO.two (i:=4) (j:=11) (by kernel_rfl) ?_ ?_
     ·refine cP 4 rfl (cR (n:=(aY bJ (i))) (bS _).1 (bS _).2) cS ⟨a1 rfl,rfl⟩ (kF ((aY bJ (i)))) ?_;refine WO.two (i:=9) (j:=11) (by kernel_rfl) ?_ ?_
      ·refine cP 9 rfl (cR (n:=(aY bJ (j))) (bS _).1 (bS _).2) cS ⟨a1 rfl,rfl⟩ (kF ((aY bJ (j)))) ?_;refine dA (key:=1) 11 (by kernel_rfl) rfl rfl aA rfl trivial ?_
       refine aN 12 (by kernel_rfl) rfl rfl aA rfl rfl rfl rfl trivial ?_
       refine dst 13 ?_;refine aP ?_;exact⟨(),trivial,aJ h0 [0,1] _ _ (by decide) ⟨rfl,rfl,rfl,rfl,rfl,trivial⟩ ⟨oe rfl rfl,oe rfl rfl,rfl⟩⟩
      refine bD (key:=1) 11 rfl rfl aA rfl trivial ?_;refine aD 9 rfl (cR (n:=(aY bJ (j))) (bS _).1 (bS _).2) cS ⟨a1 rfl,rfl⟩ (kF ((aY bJ (j)))) ?_
      refine aN 12 (by kernel_rfl) rfl rfl aA rfl rfl rfl rfl trivial ?_
      refine dst 13 ?_;refine aP ?_;exact⟨(),trivial,aJ h0 [0,1] _ _ (by decide) ⟨rfl,rfl,rfl,rfl,rfl,trivial⟩ ⟨oe rfl rfl,oe rfl rfl,rfl⟩⟩
     refine bD (key:=1) 11 rfl rfl aA rfl trivial ?_;refine aD 4 rfl (cR (n:=(aY bJ (i))) (bS _).1 (bS _).2) cS ⟨a1 rfl,rfl⟩ (kF ((aY bJ (i)))) ?_
     refine aD 9 rfl (cR (n:=(aY bJ (j))) (bS _).1 (bS _).2) cS ⟨a1 rfl,rfl⟩ (kF ((aY bJ (j)))) ?_;refine aN 12 (by kernel_rfl) rfl rfl aA rfl rfl rfl rfl trivial ?_
     refine dst 13 ?_;refine aP ?_;exact⟨(),trivial,aJ h0 [0,1] _ _ (by decide) ⟨rfl,rfl,rfl,rfl,rfl,trivial⟩ ⟨oe rfl rfl,oe rfl rfl,rfl⟩⟩
    refine bD (key:=0) 11 rfl rfl aA rfl trivial ?_;refine WO.two (i:=4) (j:=10) (by kernel_rfl) ?_ ?_
    ·refine cP 4 rfl (cR (n:=(aY bJ (i))) (bS _).1 (bS _).2) cS ⟨a1 rfl,rfl⟩ (kF ((aY bJ (i)))) ?_;refine WO.two (i:=9) (j:=10) (by kernel_rfl) ?_ ?_
     ·refine cP 9 rfl (cR (n:=(aY bJ (j))) (bS _).1 (bS _).2) cS ⟨a1 rfl,rfl⟩ (kF ((aY bJ (j)))) ?_;refine dA (key:=1) 10 (by kernel_rfl) rfl rfl aA rfl trivial ?_
      refine aN 12 (by kernel_rfl) rfl rfl aA rfl rfl rfl rfl trivial ?_
      refine dst 13 ?_;refine aP ?_;exact⟨(),trivial,aJ h0 [1,0] _ _ (by decide) ⟨rfl,rfl,rfl,rfl,rfl,trivial⟩ ⟨oe rfl rfl,oe rfl rfl,rfl⟩⟩
     refine bD (key:=1) 10 rfl rfl aA rfl trivial ?_;refine aD 9 rfl (cR (n:=(aY bJ (j))) (bS _).1 (bS _).2) cS ⟨a1 rfl,rfl⟩ (kF ((aY bJ (j)))) ?_
     refine aN 12 (by kernel_rfl) rfl rfl aA rfl rfl rfl rfl trivial ?_
     refine dst 13 ?_;refine aP ?_;exact⟨(),trivial,aJ h0 [1,0] _ _ (by decide) ⟨rfl,rfl,rfl,rfl,rfl,trivial⟩ ⟨oe rfl rfl,oe rfl rfl,rfl⟩⟩
    refine bD (key:=1) 10 rfl rfl aA rfl trivial ?_;refine aD 4 rfl (cR (n:=(aY bJ (i))) (bS _).1 (bS _).2) cS ⟨a1 rfl,rfl⟩ (kF ((aY bJ (i)))) ?_
    refine aD 9 rfl (cR (n:=(aY bJ (j))) (bS _).1 (bS _).2) cS ⟨a1 rfl,rfl⟩ (kF ((aY bJ (j)))) ?_;refine aN 12 (by kernel_rfl) rfl rfl aA rfl rfl rfl rfl trivial ?_
    refine dst 13 ?_;refine aP ?_;exact⟨(),trivial,aJ h0 [1,0] _ _ (by decide) ⟨rfl,rfl,rfl,rfl,rfl,trivial⟩ ⟨oe rfl rfl,oe rfl rfl,rfl⟩⟩
   refine sq ?_;refine rd [0,1] (fun i=>[].contains i) mixed ?_
   refine aK 0 ?_;refine aK 1 ?_
   refine aD 2 rfl (jV (a:=.of ((aY bJ (i)))) (b:=.of ((aY bJ (j)))) (aF (by omega) _) (aF (by omega) _)) Gd ⟨aB rfl,aB rfl,rfl⟩ (.one (tv (.bool true))) ?_
   refine df 3 ?_;refine df 4 ?_;refine aK 5 ?_;refine aK 6 ?_;refine aK 7 ?_;refine aK 8 ?_
   refine aD 9 rfl (uQ (aG (fK _) (by decide)).g (aG (fK _) (by decide)).g) gL ⟨aB rfl,aB rfl,rfl⟩ (kF ((aY bJ (i))*(aY bJ (i)))) ?_
   refine aD 10 rfl (Iy (a:=.of ((aY bJ (i)))) (b:=.of ((aY bJ (j)))) (c:=.of ((aY bJ (i))*(aY bJ (i)))) (aF (by omega) _) (aF (by omega) _) (aF (by omega) _)) DE ⟨aB rfl,aB rfl,aB rfl,rfl⟩ (.one (tv (.bool true))) ?_
   refine df 11 ?_;refine df 12 ?_;refine df 13 ?_;refine aK 14 ?_;refine aK 15 ?_;refine aK 16 ?_;refine qQ (key:=2) 17 (by kernel_rfl) rfl rfl aA rfl ⟨rfl,rfl,trivial⟩ ?_
   refine aD 18 rfl (xO (zs:=[.of ((aY bJ (i))),.of ((aY bJ (j))),.of ((aY bJ (i)))]) Je) Vo ⟨lI rfl (.sl (trs:=([.of ((aY bJ (i))),.of ((aY bJ (j))),.of ((aY bJ (i)))]:List Zi).flatMap (dU false)) rfl rfl rfl rfl),rfl⟩ (.one (tv (.bool true))) ?_
   refine df 19 ?_;refine df 20 ?_;refine df 21 ?_;refine aK 22 ?_;refine aK 23 ?_;refine aK 25 ?_
   refine aD 24 rfl (uQ (aG (fK _) (by decide)).g (aG (fK _) (by decide)).g) gL ⟨aB rfl,aB rfl,rfl⟩ (kF ((aY bJ (i))*(aY bJ (j)))) ?_
   refine aD 26 rfl (jV (a:=.of ((aY bJ (i))*(aY bJ (j)))) (b:=.of ((aY bJ (j)))) (aF (by omega) _) (aF (by omega) _)) Gd ⟨aB rfl,aB rfl,rfl⟩ (.one (tv (.bool true))) ?_
   refine df 27 ?_;refine df 28 ?_;refine aP ?_;refine eR rfl ?_;refine sk ?_;refine rl ?_;refine o1 ?_;refine o1 ?_
   refine WL.cast (t:=22) (u':=.int .i64 ((j+1:Nat):Int)) rfl (aH (by omega)) ?_
   refine o1 ?_;refine nl ?_;exact⟨j+1,by omega,⟨by omega,trivial⟩,aJ h0 [] _ _ (by decide) ⟨rfl,rfl,rfl,trivial⟩ rfl⟩
  refine ex ?_;refine sq ?_;have hnl:=fK i
  refine rd [] (fun i=>[].contains i) mixed ?_
  refine dv 0 ?_;refine dv 1 ?_;refine dv 2 ?_;refine gD 3 ([.v (.int .i64 (aY bJ (i)))]) (nW bJ (k:=i) (by omega)) ?_
  refine dv 5 ?_;refine dv 6 ?_;refine dv 7 ?_;refine gD 8 ([.v (.int .i64 (aY bJ (i)))]) (nW bJ (k:=i) (by omega)) ?_
  refine dv 11 ?_;refine dv 12 ?_;refine dv 13 ?_;refine gD 14 ([.v (.int .i64 (aY bJ (i)))]) (nW bJ (k:=i) (by omega)) ?_
  refine dv 17 ?_;refine dv 18 ?_;refine dv 19 ?_;refine gD 20 ([.v (.int .i64 (aY bJ (i)))]) (nW bJ (k:=i) (by omega)) ?_
  refine aD 4 rfl (cR (n:=(aY bJ (i))) (bS _).1 (bS _).2) cS ⟨a1 rfl,rfl⟩ (kF ((aY bJ (i)))) ?_
  refine aD 9 rfl (cR (n:=(aY bJ (i))) (bS _).1 (bS _).2) cS ⟨a1 rfl,rfl⟩ (kF ((aY bJ (i)))) ?_
  refine aD 10 rfl (yR (aG (fK _) (by decide)).g (aG (fK _) (by decide)).g) kU ⟨aB rfl,aB rfl,rfl⟩ (kF ((aY bJ (i))+(aY bJ (i)))) ?_
  refine aD 15 rfl (cR (n:=(aY bJ (i))) (bS _).1 (bS _).2) cS ⟨a1 rfl,rfl⟩ (kF ((aY bJ (i)))) ?_
  refine aD 16 rfl (pD (aG (fK _) (by decide)) (Nat.le_trans (fK _) (by decide))) tH ⟨aB rfl,rfl⟩ (.one (tv (.string (aW (fN ((aY bJ (i)))))))) ?_
  refine aD 21 rfl (mB (a:=.of ((aY bJ (i))+(aY bJ (i)))) (l:=(fN ((aY bJ (i))))) (n:=(aY bJ (i))) (aF (by omega) _) (wJ _) (bS _).1 (bS _).2) Pm ⟨aB rfl,a1 rfl,a1 rfl,rfl⟩ (.one (tv (.bool true))) ?_
  refine df 22 ?_;refine df 23 ?_;refine dv 24 ?_;refine dv 25 ?_;refine dv 26 ?_;refine gD 27 ([.v (.int .i64 (aY bJ (i)))]) (nW bJ (k:=i) (by omega)) ?_
  refine dv 31 ?_;refine dv 32 ?_;refine dv 33 ?_;refine gD 34 ([.v (.int .i64 (aY bJ (i)))]) (nW bJ (k:=i) (by omega)) ?_
  refine dv 38 ?_;refine dv 39 ?_;refine dv 40 ?_;refine gD 41 ([.v (.int .i64 (aY bJ (i)))]) (nW bJ (k:=i) (by omega)) ?_
  refine aD 28 rfl (cR (n:=(aY bJ (i))) (bS _).1 (bS _).2) cS ⟨a1 rfl,rfl⟩ (kF ((aY bJ (i)))) ?_
  refine aD 29 rfl (cR (n:=1) (by omega) (by omega)) cS ⟨a1 rfl,rfl⟩ (kF (1)) ?_
  refine aD 30 rfl (yS (aG (fK _) (by decide)).g (aG (show Ln 1≤2 from bC (by omega) (by decide)) (by decide)).g) wK ⟨aB rfl,aB rfl,rfl⟩ (kF ((aY bJ (i))-1)) ?_
  refine aD 35 rfl (cR (n:=(aY bJ (i))) (bS _).1 (bS _).2) cS ⟨a1 rfl,rfl⟩ (kF ((aY bJ (i)))) ?_
  refine aD 36 rfl (pD (aG (fK _) (by decide)) (Nat.le_trans (fK _) (by decide))) tH ⟨aB rfl,rfl⟩ (.one (tv (.string (aW (fN ((aY bJ (i)))))))) ?_
  refine df 37 ?_ (hC:=(by rw[bL];have:=rV (fK i) (by decide);show 1+(fN (aY bJ i)).length≤_;omega))
  refine WD.cast (t:=99) (u':=.string (aW (45::fN (aY bJ (i))))) rfl (congrArg Value.string (uM [45] _)) ?_
  refine aD 42 rfl (mB (a:=.of ((aY bJ (i))-1)) (l:=(45::fN (aY bJ (i)))) (n:=(aY bJ (i))) (aF (by omega) _) (Lim.cons (by omega) (wJ _)) (bS _).1 (bS _).2) Pm ⟨aB rfl,a1 rfl,a1 rfl,rfl⟩ (.one (tv (.bool true))) ?_
  refine df 43 ?_;refine df 44 ?_;refine aP ?_;refine eR rfl ?_;refine sk ?_;refine rl ?_;refine o1 ?_;refine o1 ?_
  refine WL.cast (t:=16) (u':=.int .i64 ((i+1:Nat):Int)) rfl (aH (by omega)) ?_
  refine o1 ?_;refine nl ?_;exact⟨i+1,by omega,⟨by omega,trivial⟩,aJ h0 [] _ _ (by decide) ⟨rfl,rfl,trivial⟩ rfl⟩
 refine ex ?_;refine sq ?_;refine sq ?_;refine rl ?_;refine bs 0 ?_;refine o1 ?_;refine o1 ?_;refine nl ?_;refine bl ?_
 refine WP.sub (fz (i:=107) (k:=0) (t:=9) (z:=1) (n:=11) (l:=tT oL) rfl rfl rfl rfl) ?_
 refine lp (γ:=Nat) (fun p=>cJ [(107,.one (.t (.s false 9 1 oL.length (tT oL)))),(108,.one (tv (.int .i64 ((oL.length:Nat):Int)))),(109,.one (tv (.int .i64 ((p:Nat):Int))))]) (fun p=>([]:List Ob).map some) (fun p=>p≤oL.length∧True) (fun p=>oL.length-p) 0 ⟨Nat.zero_le _,trivial⟩ (aJ h0 [] _ _ (by decide) ⟨rfl,rfl,rfl,trivial⟩ rfl) fun p hp=>?_
 refine sq ?_;refine rl ?_;refine o1 ?_;refine nl ?_;refine sq ?_;refine bU rfl (fun h3=>?_) (fun h3=>?_)
 ·refine sk ?_;refine sq ?_;refine bl ?_;refine sq ?_;refine rl ?_;refine o1 ?_;refine iT ([.v (.string (aW (tM oL (p))))]) (Vn oL (k:=p) (by omega)) ?_
  refine o1 ?_;refine nl ?_;refine sq ?_;refine rl ?_;refine o1 ?_;refine o1 ?_
  refine ca (mB (a:=⟨false,[]⟩) (l:=(tM oL (p))) (n:=3) Lim.nil (Ri _) (by omega) (by omega)) Pm ⟨Pl rfl (.cons .t (.cons .nil .nil)),a1 rfl,a1 rfl,rfl⟩ (.one (tv (.bool true))) ?_
  refine o1 ?_;refine nl ?_;refine eR rfl ?_;refine sk ?_;refine rl ?_;refine o1 ?_;refine WL.cast (t:=117) (u':=.int .i64 ((p+1:Nat):Int)) rfl (aH (by omega)) ?_
  refine o1 ?_;refine nl ?_;exact⟨p+1,by omega,⟨by omega,trivial⟩,aJ h0 [] _ _ (by decide) ⟨rfl,rfl,rfl,trivial⟩ rfl⟩
 refine ex ?_;refine sq ?_;refine rl ?_;refine o1 ?_;refine bs 0 ?_;refine WL.sub (Ir (i:=119) (zs:=[0]) (zs':=[0]) rfl rfl rfl rfl rfl) ?_;refine o1 ?_;refine bs 1 ?_
 refine WL.sub (Ir (i:=121) (zs:=[5,0]) (zs':=[5,0]) rfl rfl rfl rfl rfl) ?_;refine o1 ?_;refine bs 2 ?_;refine o1 ?_;refine nl ?_;refine sq ?_;refine sq ?_;refine rl ?_
 refine WL.sub (Vp (j:=2) (p:=1) (e:=22) (z':=1) rfl rfl rfl) ?_;refine WL.sub (fz (i:=8) (k:=2) (t:=44) (z:=2) (n:=3) (l:=iU.flatMap (dU false)) rfl rfl rfl rfl) ?_
 refine o1 ?_;refine nl ?_;refine bl ?_
 refine lp (γ:=Nat) (fun q=>cJ [(8,.one (.t (sZ 44 iU))),(9,.one (tv (.int .i64 ((q:Nat):Int))))]) (fun q=>([]:List Ob).map some) (fun q=>q≤iU.length∧True) (fun q=>iU.length-q) 0 ⟨Nat.zero_le _,trivial⟩ (aJ h0 [] _ _ (by decide) ⟨rfl,rfl,trivial⟩ rfl) fun q hq=>?_
 refine sq ?_;refine sq ?_;refine rl ?_;(iterate 4 refine o1 ?_);refine nl ?_;refine bU rfl (fun h4=>?_) (fun h4=>?_)
 ·refine sk ?_;refine sq ?_;refine bl ?_;refine sq ?_;refine rd [] (fun i=>[].contains i) mixed ?_
  refine dv 0 ?_;refine dv 1 ?_;refine dv 2 ?_
  refine gD 3 ((dU false) (dE iU (q))) (gS (f:=(dU false)) (z:=2) (o:=0) (fY false) (eB (by omega)) (Nat.le_of_ble_eq_true rfl) rfl) ?_
  refine aD 4 rfl (cR (n:=3) (by omega) (by omega)) cS ⟨a1 rfl,rfl⟩ (kF (3)) ?_
  refine aD 5 rfl (jV (a:=(dE iU (q))) (b:=.of (3)) (wL (by omega)) (aF (by omega) _)) Gd ⟨aB rfl,aB rfl,rfl⟩ (.one (tv (.bool true))) ?_
  refine df 6 ?_;refine df 7 ?_;refine dv 9 ?_;refine dv 10 ?_;refine dv 11 ?_
  refine gD 12 ((dU false) (dE iU (q))) (gS (f:=(dU false)) (z:=2) (o:=0) (fY false) (eB (by omega)) (Nat.le_of_ble_eq_true rfl) rfl) ?_
  refine aD 8 rfl (cR (n:=3) (by omega) (by omega)) cS ⟨a1 rfl,rfl⟩ (kF (3)) ?_
  refine aD 13 rfl (jV (a:=.of (3)) (b:=(dE iU (q))) (aF (by omega) _) (wL (by omega))) Gd ⟨aB rfl,aB rfl,rfl⟩ (.one (tv (.bool true))) ?_
  refine df 14 ?_;refine df 15 ?_;refine df 16 ?_;refine dv 17 ?_;refine dv 18 ?_;refine dv 19 ?_
  refine gD 20 ((dU false) (dE iU (q))) (gS (f:=(dU false)) (z:=2) (o:=0) (fY false) (eB (by omega)) (Nat.le_of_ble_eq_true rfl) rfl) ?_
  refine aD 21 rfl (mB (a:=(dE iU (q))) (l:=[49]) (n:=0) (wL (by omega)) (fun x hx=>by revert x;decide) (by omega) (by omega)) Pm ⟨aB rfl,a1 rfl,a1 rfl,rfl⟩ (.one (tv (.bool true))) ?_
  refine df 22 ?_;refine df 23 ?_;refine df 24 ?_;refine dv 25 ?_;refine aD 26 rfl (xO (zs:=iU) Dm) Vo ⟨a1 rfl,rfl⟩ (.one (tv (.bool true))) ?_;refine df 27 ?_
  refine df 28 ?_;refine aP ?_;refine eR rfl ?_;refine sk ?_;refine rl ?_;refine o1 ?_;refine o1 ?_
  refine WL.cast (t:=129) (u':=.int .i64 ((q+1:Nat):Int)) rfl (aH (by omega)) ?_
  refine o1 ?_;refine nl ?_;exact⟨q+1,by omega,⟨by omega,trivial⟩,aJ h0 [] _ _ (by decide) ⟨rfl,rfl,trivial⟩ rfl⟩
 refine ex ?_;refine sq ?_;refine rl ?_;refine ca (dD) fU rfl (.one (tv (.bool true))) ?_;refine o1 ?_;refine nl ?_;refine rt ?_;exact fS (.inl rfl) rfl (rfl)
end Go.Proofs.YteggpgndiajdpaaGreatDoor
namespace Go.Proofs.YteggpgndiajdpaaGreatDoor
open Go Go.RowKit Go.ChangeShapes
def Reads (P:Program) (t:TypeId) (z:Nat) (T:List Tr→Prop):Prop:=
 P.cellsOf t=z∧∀(H:Type) (enc:TypeId×Value→H) (w:World) (fuel:Nat) (cs:List Value) (x:DataW H×List MemPlace),DataW.trod enc P w 0 (fun _=>true) true fuel t cs=some x→∃l,T l∧l.length=z∧FRL w (Ia w) l cs
theorem Dn {W:World}{N:Nat→Prop}:∀{l l':List Tr}{us us':List Value},FRL W N l us→FRL W N l' us'→FRL W N (l++l') (us++us')
 | [],l',us,us',h,h'=>by simp only[FRL]at h;subst h;exact h'
 | x::l,l',u::us,us',h,h'=>by simp only[FRL,List.cons_append]at*;exact⟨h.1,Dn h.2 h'⟩
 | _::_,_,[],_,h,_=>by simp only[FRL]at h
section
variable {P:Program}{t e:TypeId}{k:IntKind}{z:Nat}{T T':List Tr→Prop}
theorem Reads.mono (h:Reads P t z T) (hi:∀l,T l→T' l):Reads P t z T':=⟨h.1,fun H enc w fuel cs x hx=>let ⟨l,a,b⟩:=h.2 H enc w fuel cs x hx;⟨l,hi l a,b⟩⟩
inductive Flds (P:Program):Nat→List Field→Nat→(List Tr→Prop)→Prop
 | nil {o:Nat}:Flds P o [] 0 (· =[])
 | cons {o z z':Nat}{f:Field}{fs:List Field}{T T':List Tr→Prop}(ho:f.offset=o) (h:Reads P f.type z T) (h':Flds P (o+z) fs z' T'):Flds P o (f::fs) (z+z') (fun l=>∃a b,l=a++b∧T a∧T' b)
theorem Flds.read {H:Type}{enc:TypeId×Value→H}{w:World}{n o:Nat}{fs:List Field}(h:Flds P o fs z T):∀{cs:List Value},o+z≤cs.length→(∀f∈fs,∃x,DataW.trod enc P w 0 (fun _=>true) true n f.type ((cs.drop f.offset).take (P.cellsOf f.type))=some x)→∃l,T l∧l.length=z∧FRL w (Ia w) l ((cs.drop o).take z):=by
 induction h with
 | nil=>exact fun _ _=>⟨[],rfl,rfl,by simp[FRL]⟩
 | @cons o z z' f fs T T' ho hr _ ih=>
  intro cs hl hf
  obtain⟨b,h1,h2,h3⟩:=ih (cs:=cs) (by omega) fun f hm=>hf f (List.mem_cons_of_mem _ hm)
  obtain⟨x,hx⟩:=hf f List.mem_cons_self
  obtain⟨a,g1,g2,g3⟩:=hr.2 H enc w n _ x hx
  rw[ho,hr.1]at g3
  refine⟨a++b,⟨a,b,rfl,g1,h1⟩,by simp[g2,h2],?_⟩
  rw[List.take_add,List.drop_drop]
  exact Dn g3 h3
end
def LimF (a:Fr4):Prop:=Lim 4294967296 a.x∧Lim 4294967296 a.y
theorem LimF.ok {a:Fr4}(h:LimF a) (h2:a.x.length≤6∧a.y.length≤6):a.ok:=⟨h.1,h.2,by omega,by omega⟩
end Go.Proofs.YteggpgndiajdpaaGreatDoor
namespace Go.Proofs.YteggpgndiajdpaaGreatDoor
open Go Go.ChangeShapes Go.WideShapes Go.ChangeAt Go.RowKit
end Go.Proofs.YteggpgndiajdpaaGreatDoor
