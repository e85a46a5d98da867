/- Part 4 of a proof: Av18 to Av23. -/
import Derived.Test.YtcaakamelngceaaGreatDoorM3
import Derived.Test.YtcaakamelngceaaGreatDoorChecked
set_option maxRecDepth 100000
set_option linter.unusedVariables false
set_option linter.unusedSimpArgs false
namespace Go.Proofs.YtcaakamelngceaaGreatDoor
open Go Go.RowKit
section
variable {x:Cx}{g g':Nat→FV}{ob ob':List (Option Ob)}{cs cs':List Co}{ts ts':Array Value}{W W':World}{T:List (Nat×TI)}{Q:Post}{ops:Array Oper}{d:Nat}{op:Op}{ty:TypeId}{pos:String}{af:Array Edge}{gd:Option (Nat×Bool)}{late:Nat→Bool}{K fr:List Nat}{on:Bool}{fuel:Nat}{listed:Array Bool}
theorem uN {v:FV}:∀j,some d≠some j→aM g d v j=g j:=fun j hj=>by
 have hb:Nat.beq j d=false:=by
  cases hq:Nat.beq j d
  ·rfl
  exact absurd (by rw[Nat.eq_of_beq_eq_true hq]) hj
 simp[aM,hb]
theorem dn (i:Nat) (hi:ops[i]? =some ⟨some d,op,ty,pos,af,gd⟩) (hst:kU ops late listed i=true) (hw:aO ops x.n g gd=some false)
  (k:WD x ops Q late K fr true fuel (listed.setIfInBounds i true) (aM g d (.one (tv undef))) ob):WD x ops Q late K fr true (fuel+1) listed g ob:=by
 intro Kp W1 cs ts W hR hK1 hK2 hon
 have hk:=hon rfl
 simp only[kU,Bool.and_eq_true]at hst
 obtain⟨s1,s2,s3,s4⟩:=hst
 exact qD hi (Region.noSelect_spec s1) (fun c a w h=>h) (fun j oj hj hlj=>lQ s4 j oj hj hlj) fuel listed _ W (Region.free_spec hi s2) (by simpa using s3) (.inr ⟨gD hw hR,rfl⟩) hk.same
  (k Kp W1 cs _ W (hR.put d (v:=.one (tv undef)) (dV (by simp[tv,AR,FR]))) hK1 hK2 fun _=>hk.put hR.1 (v:=.one (tv undef)) (dV (by simp[tv,AR,FR])))
theorem WD.split {t:Nat}{p:Prop} [Decidable p] (h:lk x.n g (.tmp t)=.one (tv (.bool (decide p)))) (ht:g t=.one (tv (.bool (decide p)))) (h1:p→WD x ops Q late K fr on fuel listed (aM g t (.one (tv (.bool true)))) ob) (h2:¬p→WD x ops Q late K fr on fuel listed (aM g t (.one (tv (.bool false)))) ob):WD x ops Q late K fr on fuel listed g ob:=by
 have key:∀b:Bool,decide p=b→aM g t (.one (tv (.bool b)))=g:=fun b hb=>by
  funext i
  unfold aM
  cases hq:Nat.beq i t
  ·rfl
  rw[Nat.eq_of_beq_eq_true hq,ht,hb]
  rfl
 by_cases hp:p
 ·rw[←key true (by simp[hp])]
  exact h1 hp
 rw[←key false (by simp[hp])]
 exact h2 hp
theorem WL.split {t:Nat}{rest:List Oper}{p:Prop} [Decidable p] (ht:g t=.one (tv (.bool (decide p)))) (h1:p→WL x ops rest (aM g t (.one (tv (.bool true)))) ob Q) (h2:¬p→WL x ops rest (aM g t (.one (tv (.bool false)))) ob Q):WL x ops rest g ob Q:=by
 have key:∀b:Bool,decide p=b→aM g t (.one (tv (.bool b)))=g:=fun b hb=>by
  funext i
  unfold aM
  cases hq:Nat.beq i t
  ·rfl
  rw[Nat.eq_of_beq_eq_true hq,ht,hb]
  rfl
 by_cases hp:p
 ·rw[←key true (by simp[hp])]
  exact h1 hp
 rw[←key false (by simp[hp])]
 exact h2 hp
def Yx (K:List Nat) (ob:List (Option Ob)):Bool:=K.all fun k=>Nat.blt k ob.length
theorem Ts {o:Option Ob}{l:List (Option Ob)}(h:Yx K ob=true) (k:Nat) (hk:k∈K):(ob++l)[k]? =ob[k]? :=by
 have:=List.all_eq_true.1 h k hk
 have hlt:k<ob.length:=by simpa[Nat.blt,Nat.lt_iff_add_one_le]using this
 exact List.getElem?_append_left hlt
def mT (ob ob':List (Option Ob)):List Nat→Prop
 | []=>True
 | k::K=>ob'[k]? =ob[k]? ∧mT ob ob' K
theorem gI:∀{K:List Nat},mT ob ob' K→∀k∈K,ob'[k]? =ob[k]?
 | [],_,k,hk=>by simp at hk
 | k0::K,h,k,hk=>by
  rcases List.mem_cons.1 hk with rfl | hk
  ·exact h.1
  exact gI h.2 k hk
theorem Hu {o:Oper}{R:(Nat→FV)→List (Option Ob)→Prop}{v:FV}(i:Nat) (hr:Region.ready .any ops listed=[i]) (hi:ops[i]? =some o) (hd:o.dst=some d) (hw:aO ops x.n g o.guard=some true) (h:OS x o g ob [] R)
  (hg:∀g' ob',R g' ob'→g'=aM g d v∧∀k∈K,ob'[k]? =ob[k]?) (k:∀g' ob',R g' ob'→WD x ops Q late K (d::fr) true fuel (listed.setIfInBounds i true) g' ob'):WD x ops Q late K fr true (fuel+1) listed g ob:=by
 refine Ey i hr hi hw h true (fun _=>⟨rfl,fun _ _ h=>by simp at h⟩) (fun _=>rfl) (fun _ g' ob' hR=>?_) fun g' ob' hR=>by rw[hd];exact k g' ob' hR
 obtain⟨h1,h2⟩:=hg g' ob' hR
 exact⟨by rw[hd,h1];exact uN,h2⟩
theorem Yy {fresh:Bool}{f:FuncId}{args:List FV}{r v:FV}{aa:Array Operand}{ats:Array TypeId}(i:Nat) (hr:Region.ready .any ops listed=[i]) (hi:ops[i]? =some ⟨some d,.call ⟨.value (.func f),aa,ats⟩,ty,pos,af,gd⟩) (hw:aO ops x.n g gd=some true) (hS:aE fresh x.P f [] args (aI r)) (hf:CallOk x.P f) (ha:AL fresh x g ob aa.toList args) (hv:sL r=v)
  (k:WD x ops Q late K (d::fr) true fuel (listed.setIfInBounds i true) (aM g d v) ob):WD x ops Q late K fr true (fuel+1) listed g ob:=
 Hu (v:=v) i hr hi rfl hw (wP hS hf ha) (by rintro _ _ ⟨r',rfl,rfl,rfl⟩;exact⟨by rw[hv],fun _ _=>rfl⟩) (by rintro _ _ ⟨r',rfl,rfl,rfl⟩;rw[hv];exact k)
theorem kV {t key:Nat}(i:Nat) (hr:Region.ready .any ops listed=[i]) (hi:ops[i]? =some ⟨some d,.alloc t,ty,pos,af,gd⟩) (hw:aO ops x.n g gd=some true) (hT:bG x.P T) (h:wK T t key ob=some ob') (hke:mT ob ob' K)
  (k:WD x ops Q late K (d::fr) true fuel (listed.setIfInBounds i true) (aM g d (.one (.pt key 0))) ob'):WD x ops Q late K fr true (fuel+1) listed g ob:=
 Hu (v:=.one (.pt key 0)) i hr hi rfl hw (Hm hT h) (by rintro _ _ ⟨rfl,rfl⟩;exact⟨rfl,gI hke⟩) (by rintro _ _ ⟨rfl,rfl⟩;exact k)
theorem Hv {o:Oper}{R:(Nat→FV)→List (Option Ob)→Prop}{v:FV}(i:Nat) (hi:ops[i]? =some o) (hd:o.dst=some d) (hw:aO ops x.n g o.guard=some true) (h:OS x o g ob [] R)
  (hg:∀g' ob',R g' ob'→g'=aM g d v∧∀k∈K,ob'[k]? =ob[k]?) (k:∀g' ob',R g' ob'→WD x ops Q late K (d::fr) true fuel (listed.setIfInBounds i true) g' ob'):WO x ops Q late K fr true fuel listed i g ob:=by
 refine Qv i hi hw h true (fun _=>⟨rfl,fun _ _ h=>by simp at h⟩) (fun _=>rfl) (fun _ g' ob' hR=>?_) fun g' ob' hR=>by rw[hd];exact k g' ob' hR
 obtain⟨h1,h2⟩:=hg g' ob' hR
 exact⟨by rw[hd,h1];exact uN,h2⟩
theorem Yz {fresh:Bool}{f:FuncId}{args:List FV}{r v:FV}{aa:Array Operand}{ats:Array TypeId}(i:Nat) (hi:ops[i]? =some ⟨some d,.call ⟨.value (.func f),aa,ats⟩,ty,pos,af,gd⟩) (hw:aO ops x.n g gd=some true) (hS:aE fresh x.P f [] args (aI r)) (hf:CallOk x.P f) (ha:AL fresh x g ob aa.toList args) (hv:sL r=v)
  (k:WD x ops Q late K (d::fr) true fuel (listed.setIfInBounds i true) (aM g d v) ob):WO x ops Q late K fr true fuel listed i g ob:=
 Hv (v:=v) i hi rfl hw (wP hS hf ha) (by rintro _ _ ⟨r',rfl,rfl,rfl⟩;exact⟨by rw[hv],fun _ _=>rfl⟩) (by rintro _ _ ⟨r',rfl,rfl,rfl⟩;rw[hv];exact k)
theorem eP {t key:Nat}(i:Nat) (hi:ops[i]? =some ⟨some d,.alloc t,ty,pos,af,gd⟩) (hw:aO ops x.n g gd=some true) (hT:bG x.P T) (h:wK T t key ob=some ob') (hke:mT ob ob' K)
  (k:WD x ops Q late K (d::fr) true fuel (listed.setIfInBounds i true) (aM g d (.one (.pt key 0))) ob'):WO x ops Q late K fr true fuel listed i g ob:=
 Hv (v:=.one (.pt key 0)) i hi rfl hw (Hm hT h) (by rintro _ _ ⟨rfl,rfl⟩;exact⟨rfl,gI hke⟩) (by rintro _ _ ⟨rfl,rfl⟩;exact k)
theorem Nx {t len key:Nat}{ps:Array (Nat×Operand)}(i:Nat) (hr:Region.ready .any ops listed=[i]) (hi:ops[i]? =some ⟨some d,.buildSlice t len ps,ty,pos,af,gd⟩) (hw:aO ops x.n g gd=some true) (hT:bG x.P T) (h:Bg T x.n g t len key ps.toList ob=some ob') (hke:mT ob ob' K)
  (k:WD x ops Q late K (d::fr) true fuel (listed.setIfInBounds i true) (aM g d (.one (.sl key 0 len))) ob'):WD x ops Q late K fr true (fuel+1) listed g ob:=
 Hu (v:=.one (.sl key 0 len)) i hr hi rfl hw (Qy hT h) (by rintro _ _ ⟨rfl,rfl⟩;exact⟨rfl,gI hke⟩) (by rintro _ _ ⟨rfl,rfl⟩;exact k)
theorem gA {C:Prop}{v:FV}(i:Nat) (hr:Region.ready .any ops listed=[i]) (hi:ops[i]? =some ⟨some d,op,ty,pos,af,gd⟩) (hw:aO ops x.n g gd=some true) (hT:bG x.P T) (h:pV T x.n g op=some (C,v)) (hC:C)
  (k:WD x ops Q late K (d::fr) on fuel (listed.setIfInBounds i true) (aM g d v) ob) (hl:late i=false→on=true):WD x ops Q late K fr on (fuel+1) listed g ob:=by
 refine Ey i hr hi hw (Yr hT h hC) on (fun h=>⟨h,fun _ _ h=>by simp at h⟩) hl (fun _ g' ob' hR=>?_) fun g' ob' hR=>?_
 ·obtain⟨rfl,rfl⟩:=hR
  exact⟨uN,fun _ _=>rfl⟩
 obtain⟨rfl,rfl⟩:=hR
 exact k
theorem HJ {t:Nat}{ti:TI}{a b:Operand}(i:Nat) (hr:Region.ready .any ops listed=[i]) (hi:ops[i]? =some ⟨none,.store t a b,ty,pos,af,gd⟩) (hw:aO ops x.n g gd=some true) (hT:bG x.P T) (hti:aS T t=some ti) (h:qM ti ob (lk x.n g b) (lk x.n g a)=some ob') (hl:late i=true)
  (k:WD x ops Q late K fr false fuel (listed.setIfInBounds i true) g ob'):WD x ops Q late K fr on (fuel+1) listed g ob:=by
 obtain⟨ky,hs,_⟩:=yY (ty:=ty) (pos:=pos) (af:=af) (gd:=gd) hT hti h
 refine Ey i hr hi hw hs false (fun h=>by cases h) (fun h=>by rw[hl]at h;cases h) (fun h=>by cases h) fun g' ob' hR=>?_
 obtain⟨rfl,rfl⟩:=hR
 exact k
theorem cF {t key o:Nat}{ti:TI}{a b:Operand}(i:Nat) (hr:Region.ready .any ops listed=[i]) (hi:ops[i]? =some ⟨none,.store t a b,ty,pos,af,gd⟩) (hw:aO ops x.n g gd=some true) (hT:bG x.P T) (hti:aS T t=some ti) (h:qM ti ob (lk x.n g b) (lk x.n g a)=some ob') (hlk:lk x.n g a=.one (.pt key o)) (hK:K.contains key=false) (hke:mT ob ob' K)
  (k:WD x ops Q late K fr true fuel (listed.setIfInBounds i true) g ob'):WD x ops Q late K fr true (fuel+1) listed g ob:=by
 obtain⟨ky,hs,o2,hlk2⟩:=yY (ty:=ty) (pos:=pos) (af:=af) (gd:=gd) hT hti h
 rw[hlk]at hlk2
 injection hlk2 with e
 injection e with e1 e2
 subst e1
 refine Ey i hr hi hw hs true (fun _=>⟨rfl,fun k hk hm=>?_⟩) (fun _=>rfl) (fun _ g' ob' hR=>?_) fun g' ob' hR=>?_
 ·rw[List.mem_singleton]at hm
  subst hm
  have:K.contains k=true:=by simpa using hk
  rw[hK]at this
  cases this
 ·obtain⟨rfl,rfl⟩:=hR
  exact⟨fun _ _=>rfl,gI hke⟩
 obtain⟨rfl,rfl⟩:=hR
 exact k
theorem WL.splitb {t:Nat}{rest:List Oper}{b:Bool}(ht:g t=.one (tv (.bool b))) (h1:b=true→WL x ops rest (aM g t (.one (tv (.bool true)))) ob Q) (h2:b=false→WL x ops rest (aM g t (.one (tv (.bool false)))) ob Q):WL x ops rest g ob Q:=by
 have key:∀b':Bool,b=b'→aM g t (.one (tv (.bool b')))=g:=fun b' hb=>by
  funext i
  unfold aM
  cases hq:Nat.beq i t
  ·rfl
  rw[Nat.eq_of_beq_eq_true hq,ht,hb]
  rfl
 cases hb:b
 ·rw[←key false hb]
  exact h2 hb
 rw[←key true hb]
 exact h1 hb
theorem WD.splitb {t:Nat}{b:Bool}(ht:g t=.one (tv (.bool b))) (h1:b=true→WD x ops Q late K fr on fuel listed (aM g t (.one (tv (.bool true)))) ob) (h2:b=false→WD x ops Q late K fr on fuel listed (aM g t (.one (tv (.bool false)))) ob):WD x ops Q late K fr on fuel listed g ob:=by
 have key:∀b':Bool,b=b'→aM g t (.one (tv (.bool b')))=g:=fun b' hb=>by
  funext i
  unfold aM
  cases hq:Nat.beq i t
  ·rfl
  rw[Nat.eq_of_beq_eq_true hq,ht,hb]
  rfl
 cases hb:b
 ·rw[←key false hb]
  exact h2 hb
 rw[←key true hb]
 exact h1 hb
theorem WL.cast {t:Nat}{rest:List Oper}{u u':Value}(ht:g t=.one (tv u)) (e:u=u') (k:WL x ops rest (aM g t (.one (tv u'))) ob Q):WL x ops rest g ob Q:=by
 have:aM g t (.one (tv u'))=g:=by
  funext i
  unfold aM
  cases hq:Nat.beq i t
  ·rfl
  rw[Nat.eq_of_beq_eq_true hq,ht,e]
  rfl
 rwa[this]at k
theorem WD.cast {t:Nat}{u u':Value}(ht:g t=.one (tv u)) (e:u=u') (k:WD x ops Q late K fr on fuel listed (aM g t (.one (tv u'))) ob):WD x ops Q late K fr on fuel listed g ob:=by
 have:aM g t (.one (tv u'))=g:=by
  funext i
  unfold aM
  cases hq:Nat.beq i t
  ·rfl
  rw[Nat.eq_of_beq_eq_true hq,ht,e]
  rfl
 rwa[this]at k
theorem bO {k:IntKind}{a b:Int}(h:a=b):Value.int k a=.int k b:=by rw[h]
theorem Sub.trans {g2:Nat→FV}{ob2:List (Option Ob)}(h:Sub x g ob g' ob') (h':Sub x g' ob' g2 ob2):Sub x g ob g2 ob2:=fun ts W hR=>h' ts W (h ts W hR)
theorem nr {i:Nat}(key e z:Nat) (hz:Nat.beq z 0=false) (hk:dF ob key=true) (hi:Nat.blt i x.n=true) (hg:g i=.one (tv (.slice none 0 0))):Sub x g ob (aM g i (.one (.sl key 0 0))) (ob++[some ⟨e,z,[]⟩]):=by
 rintro ts W ⟨cs,hR⟩
 have hk:=Nat.eq_of_beq_eq_true hk
 have hi:i<x.n:=by simpa[Nat.blt,Nat.lt_iff_add_one_le]using hi
 have hz0:z≠0:=fun e=>by subst e;simp at hz
 have m1:=hR.push (Below.refl _ _) ⟨e,z,[]⟩ ⟨none,0,[]⟩ (by simp[aF]) (by simp[aF]) (by simp[aF]) (by simp[aU]) (fun _=>⟨rfl,hz0⟩)
 obtain⟨u,h1,h2⟩:=hR.fv hi
 rw[hg]at h2
 have h2:=aG h2
 subst h2
 have m2:=m1.put i (v:=.one (.sl key 0 0)) (u:=.slice none 0 0) (by
  refine dV ?_
  simp only[AR]
  rw[←hk,hR.len,eH]
  exact⟨by simp,by trivial,by trivial,by trivial⟩)
 have e:ts.setIfInBounds i (.slice none 0 0)=ts:=by
  apply Array.ext_getElem?
  intro j
  rw[Array.getElem?_setIfInBounds]
  split
  ·rename_i e
   subst e
   split
   ·exact h1.symm
   rename_i h9
   rw[hR.1]at h9
   exact absurd hi h9
  rfl
 rw[e]at m2
 exact⟨_,m2⟩
end
def wQ (k:Nat):AV→Option (AV×List Ob)
 | .t (.s true t z n l)=>match Nat.beq z 0 with
  | false=>some (.sl k 0 n,[⟨t,z,l.map .t⟩])
  | true=>none
 | .t (.p true t l)=>some (.pt k 0,[⟨t,0,l.map .t⟩])
 | .t (.s false t z n l)=>some (.t (.s false t z n l),[])
 | .t (.p false t l)=>some (.t (.p false t l),[])
 | .t (.v v)=>some (.t (.v v),[])
 | .t (.f g l0 l)=>some (.t (.f g l0 l),[])
 | _=>none
def kW (k:Nat):List AV→Option (List AV×List Ob)
 | []=>some ([],[])
 | a::l=>match wQ k a with
  | some (a',[])=>match kW k l with
   | some (l',os)=>some (a'::l',os)
   | none=>none
  | some (a',o::_)=>match kW (k+1) l with
   | some (l',os)=>some (a'::l',o::os)
   | none=>none
  | none=>none
def jP:VT→Co
 | .w _=>⟨none,0,[]⟩
 | .s b c _ _ _ l=>⟨some b,c,l⟩
 | .p b _ l=>⟨some b,0,l⟩
section
variable {W:World}{N:Nat→Prop}
theorem wR {k:Nat}{a a':AV}{os:List Ob}{y:VT}(hc:CR W N [] a y) (hok:y.ok W) (h:wQ k a=some (a',os)):
  (os=[]∧y.fp=[]∧∀(N':Nat→Prop) (cs:List Co),(∀b,N b→N' b)→AR W N' cs a' y.val)∨
  (∃o,os=[o]∧(aF (some o) (jP y)).S=y.fp∧(aF (some o) (jP y)).φ W∧(∀(N':Nat→Prop) (cs:List Co),(∀b,N b→N' b)→k<cs.length→co cs k=jP y→AR W N' cs a' y.val∧aU W N' cs o.l (jP y).l)∧((jP y).b=none→o.l=[]∧o.z≠0)):=by
 unfold wQ at h
 split at h
 ·rename_i t z n l
  split at h
  ·rename_i hz
   injection h with h
   injection h with h1 h2
   subst h1 h2
   refine .inr ⟨_,rfl,?_⟩
   have hz0:z≠0:=fun e=>by subst e;simp at hz
   simp only[CR]at hc
   cases y with
   | w u=>
    simp only[OR]at hc
    rcases hc with⟨_,rfl,rfl,rfl⟩ | ⟨hc,_⟩
    ·refine⟨rfl,by simp[aF,jP],fun N' cs hN hk hco=>⟨?_,by simp[aU,jP]⟩,fun _=>⟨rfl,hz0⟩⟩
     simp only[AR,hco,jP,VT.val]
     exact⟨hk,by trivial,by trivial,by trivial⟩
    cases hc
   | s b c t' z' n' l'=>
    simp only[OR]at hc
    obtain⟨_,rfl,rfl,rfl,hl⟩:=hc
    simp only[VT.ok]at hok
    obtain⟨k1,k2,k3,k4,k5⟩:=hok
    refine⟨rfl,?_,fun N' cs hN hk hco=>⟨?_,wO (ORL_keep (fun _ _=>rfl) hN _ _ hl)⟩,fun h=>by cases h⟩
    ·simp only[aF,jP]
     rw[hz,cond_false]
     exact⟨k1,k5,k3⟩
    simp only[AR,hco,jP,VT.val]
    exact⟨hk,0,c,rfl,k2,by unfold maxLen at k3;omega,fun _=>rfl,fun _=>rfl⟩
   | p b t' l'=>simp only[OR]at hc
  cases h
 ·rename_i t l
  injection h with h
  injection h with h1 h2
  subst h1 h2
  refine .inr ⟨_,rfl,?_⟩
  simp only[CR]at hc
  cases y with
  | w u=>
   simp only[OR]at hc
   cases hc.1
  | s b c t' z' n' l'=>simp only[OR]at hc
  | p b t' l'=>
   simp only[OR]at hc
   obtain⟨_,rfl,hl⟩:=hc
   simp only[VT.ok]at hok
   refine⟨rfl,?_,fun N' cs hN hk hco=>⟨?_,wO (ORL_keep (fun _ _=>rfl) hN _ _ hl)⟩,fun h=>by cases h⟩
   ·simp only[aF,jP]
    exact⟨hok.1,hok.2,Nat.zero_le _⟩
   simp only[AR,hco,jP,VT.val]
   exact⟨b,rfl,rfl⟩
 ·injection h with h
  injection h with h1 h2
  subst h1 h2
  have hr:=uH hc rfl
  refine .inl ⟨rfl,?_,fun N' cs hN=>eS (fun _ _=>rfl) hN ⟨Nat.zero_le _,fun k hk=>by simp at hk⟩ _ _ hr⟩
  simp only[CR]at hc
  cases y with
  | w u=>rfl
  | s=>simp only[OR]at hc;cases hc.1
  | p=>simp only[OR]at hc
 ·injection h with h
  injection h with h1 h2
  subst h1 h2
  have hr:=uH hc rfl
  refine .inl ⟨rfl,?_,fun N' cs hN=>eS (fun _ _=>rfl) hN ⟨Nat.zero_le _,fun k hk=>by simp at hk⟩ _ _ hr⟩
  simp only[CR]at hc
  cases y with
  | w u=>rfl
  | s=>simp only[OR]at hc
  | p=>simp only[OR]at hc;cases hc.1
 ·injection h with h
  injection h with h1 h2
  subst h1 h2
  have hr:=uH hc rfl
  refine .inl ⟨rfl,?_,fun N' cs hN=>eS (fun _ _=>rfl) hN ⟨Nat.zero_le _,fun k hk=>by simp at hk⟩ _ _ hr⟩
  simp only[CR,OR]at hc
  subst hc
  rfl
 ·injection h with h
  injection h with h1 h2
  subst h1 h2
  have hr:=uH hc rfl
  refine .inl ⟨rfl,?_,fun N' cs hN=>eS (fun _ _=>rfl) hN ⟨Nat.zero_le _,fun k hk=>by simp at hk⟩ _ _ hr⟩
  simp only[CR]at hc
  cases y with
  | w u=>rfl
  | s=>simp only[OR]at hc
  | p=>simp only[OR]at hc
 cases h
theorem rY:∀{l l':List AV}{k:Nat}{os:List Ob}{ys:List VT},aU W N [] l ys→VT.okL W ys→kW k l=some (l',os)→∃cs2:List Co,cs2.length=os.length∧(aC (os.map some) cs2).flatMap Res.S=VT.fpL ys∧(∀r∈aC (os.map some) cs2,r.φ W)∧
  ∀(N':Nat→Prop) (cs:List Co),(∀b,N b→N' b)→k+os.length≤cs.length→(∀i,i<os.length→co cs (k+i)=co cs2 i)→ARL W N' cs l' (ys.map VT.val)∧∀(i:Nat) (o:Ob),os[i]? =some o→aU W N' cs o.l (co cs2 i).l∧((co cs2 i).b=none→o.l=[]∧o.z≠0)
 | [],l',k,os,ys,hc,hok,h=>by
  simp only[aU]at hc
  subst hc
  simp[kW]at h
  obtain⟨rfl,rfl⟩:=h
  exact⟨[],rfl,rfl,by simp[aC],fun N' cs hN hk hco=>⟨by simp[ARL],fun i o ho=>by simp at ho⟩⟩
 | a::l,l',k,os,[],hc,hok,h=>by simp only[aU]at hc
 | a::l,l',k,os,y::ys,hc,hok,h=>by
  simp only[aU]at hc
  simp only[VT.okL]at hok
  unfold kW at h
  split at h
  ·rename_i a' ha
   split at h
   ·rename_i l2 os2 hl
    injection h with h
    injection h with h1 h2
    subst h1 h2
    obtain⟨cs2,e1,e2,e3,e4⟩:=rY hc.2 hok.2 hl
    rcases wR hc.1 hok.1 ha with⟨_,f1,f2⟩ | ⟨o,f1,_⟩
    ·refine⟨cs2,e1,by rw[e2];simp[VT.fpL,f1],e3,fun N' cs hN hk hco=>?_⟩
     obtain⟨g1,g2⟩:=e4 N' cs hN hk hco
     simp only[List.map_cons,ARL]
     exact⟨⟨f2 N' cs hN,g1⟩,g2⟩
    cases f1
   cases h
  ·rename_i a' o os0 ha
   split at h
   ·rename_i l2 os2 hl
    injection h with h
    injection h with h1 h2
    subst h1 h2
    obtain⟨cs2,e1,e2,e3,e4⟩:=rY hc.2 hok.2 hl
    rcases wR hc.1 hok.1 ha with⟨f1,_⟩ | ⟨o',f1,f2,f3,f4,f5⟩
    ·cases f1
    injection f1 with f1 _
    subst f1
    refine⟨jP y::cs2,by simp[e1],?_,?_,fun N' cs hN hk hco=>?_⟩
    ·unfold aC at e2⊢
     simp only[List.map_cons,List.zipWith_cons_cons,List.flatMap_cons,VT.fpL,f2,e2]
    ·unfold aC at e3⊢
     simp only[List.map_cons,List.zipWith_cons_cons]
     intro r hr
     rcases List.mem_cons.1 hr with rfl | hr
     ·exact f3
     exact e3 r hr
    simp only[List.length_cons]at hk hco
    have h0:=hco 0 (by omega)
    obtain⟨g1,g2⟩:=f4 N' cs hN (by omega) h0
    obtain⟨g3,g4⟩:=e4 N' cs hN (by omega) (fun i hi=>by
     have:=hco (i+1) (by omega)
     rw[show k+(i+1)=k+1+i by omega]at this
     rw[this]
     simp[co])
    simp only[List.map_cons,ARL]
    refine⟨⟨g1,g3⟩,fun i o ho=>?_⟩
    cases i with
    | zero=>
     simp at ho
     subst ho
     exact⟨g2,f5⟩
    | succ i=>
     have:=g4 i o (by simpa using ho)
     simpa[co]using this
   cases h
  cases h
end
def qV (k:Nat):FV→Option (FV×List Ob)
 | .one a=>match wQ k a with
  | some (a',os)=>some (.one a',os)
  | none=>none
 | .agg l=>match kW k l with
  | some (l',os)=>some (.agg l',os)
  | none=>none
 | _=>none
def tI (k:Nat):List FV→Option (List FV×List Ob)
 | []=>some ([],[])
 | a::l=>match qV k a with
  | some (a',os)=>match tI (k+os.length) l with
   | some (l',os')=>some (a'::l',os++os')
   | none=>none
  | none=>none
def iL (k:Nat):FV→Option (FV×List Ob)
 | .tup l=>match tI k l with
  | some (l',os)=>some (.tup l',os)
  | none=>none
 | v=>qV k v
section
variable {W:World}{N:Nat→Prop}
def Bnd (W:World) (N:Nat→Prop) (k:Nat) (os:List Ob) (ys:List VT) (A:(Nat→Prop)→List Co→Prop):Prop:=∃cs2:List Co,cs2.length=os.length∧(aC (os.map some) cs2).flatMap Res.S=VT.fpL ys∧(∀r∈aC (os.map some) cs2,r.φ W)∧
  ∀(N':Nat→Prop) (cs:List Co),(∀b,N b→N' b)→k+os.length≤cs.length→(∀i,i<os.length→co cs (k+i)=co cs2 i)→A N' cs∧∀(i:Nat) (o:Ob),os[i]? =some o→aU W N' cs o.l (co cs2 i).l∧((co cs2 i).b=none→o.l=[]∧o.z≠0)
theorem wS {k:Nat}{r v:FV}{os:List Ob}{u:Value}{ys:List VT}(hr:pW W N [] r u ys) (hok:VT.okL W ys) (h:qV k r=some (v,os)):Bnd W N k os ys (fun N' cs=>bB W N' cs v u):=by
 cases r with
 | any=>exact hr.elim
 | tup l=>exact hr.elim
 | one a=>
  obtain⟨z,rfl,rfl,hc⟩:=hr
  unfold qV at h
  dsimp only at h
  split at h
  ·rename_i a' os' ha
   injection h with h
   injection h with h1 h2
   subst h1 h2
   have hl:kW k [a]=some ([a'],os')∨∃o r,os'=o::r:=by
    cases os' with
    | nil=>left;simp[kW,ha]
    | cons o r=>exact .inr ⟨o,r,rfl⟩
   have hl2:kW k [a]=some ([a'],os'):=by
    rcases hl with hl | ⟨o,r,rfl⟩
    ·exact hl
    have hr':r=[]:=by
     rcases wR hc (by simpa[VT.okL]using hok) ha with⟨f1,_⟩ | ⟨o',f1,_⟩
     ·cases f1
     injection f1
    subst hr'
    simp[kW,ha]
   obtain⟨cs2,e1,e2,e3,e4⟩:=rY (l:=[a]) (ys:=[z]) (by simp only[aU];exact⟨hc,trivial⟩) hok hl2
   refine⟨cs2,e1,e2,e3,fun N' cs hN hk hco=>?_⟩
   obtain⟨g1,g2⟩:=e4 N' cs hN hk hco
   simp only[List.map_cons,ARL]at g1
   exact⟨g1.1,g2⟩
  cases h
 | agg l=>
  obtain⟨rfl,hc⟩:=hr
  unfold qV at h
  dsimp only at h
  split at h
  ·rename_i l' os' hl
   injection h with h
   injection h with h1 h2
   subst h1 h2
   obtain⟨cs2,e1,e2,e3,e4⟩:=rY hc hok hl
   refine⟨cs2,e1,e2,e3,fun N' cs hN hk hco=>?_⟩
   obtain⟨g1,g2⟩:=e4 N' cs hN hk hco
   exact⟨⟨_,rfl,g1⟩,g2⟩
  cases h
theorem Bnd.app {k:Nat}{os os':List Ob}{ys ys':List VT}{A B:(Nat→Prop)→List Co→Prop}(h:Bnd W N k os ys A) (h':Bnd W N (k+os.length) os' ys' B):Bnd W N k (os++os') (ys++ys') (fun N cs=>A N cs∧B N cs):=by
 obtain⟨c1,a1,a2,a3,a4⟩:=h
 obtain⟨c2,b1,b2,b3,b4⟩:=h'
 have hr:aC ((os++os').map some) (c1++c2)=aC (os.map some) c1++aC (os'.map some) c2:=by
  unfold aC
  rw[List.map_append,List.zipWith_append (by simp[a1])]
 have hc1:∀i,i<os.length→co (c1++c2) i=co c1 i:=fun i hi=>by simp[co,List.getElem?_append_left (show i<c1.length by omega)]
 have hc2:∀i,co (c1++c2) (os.length+i)=co c2 i:=fun i=>by
  unfold co
  rw[List.getElem?_append_right (by omega),show os.length+i-c1.length=i by omega]
 refine⟨c1++c2,by simp[a1,b1],by rw[hr,List.flatMap_append,a2,b2,gP],fun r hm=>?_,fun N' cs hN hk hco=>?_⟩
 ·rw[hr]at hm
  rcases List.mem_append.1 hm with hm | hm
  ·exact a3 r hm
  exact b3 r hm
 simp only[List.length_append]at hk hco
 obtain⟨g1,g2⟩:=a4 N' cs hN (by omega) (fun i hi=>by rw[hco i (by omega),hc1 i hi])
 obtain⟨g3,g4⟩:=b4 N' cs hN (by omega) (fun i hi=>by
  have:=hco (os.length+i) (by omega)
  rw[hc2,show k+(os.length+i)=k+os.length+i by omega]at this
  exact this)
 refine⟨⟨g1,g3⟩,fun i o ho=>?_⟩
 rcases Nat.lt_or_ge i os.length with hi | hi
 ·rw[List.getElem?_append_left hi]at ho
  rw[hc1 i hi]
  exact g2 i o ho
 rw[List.getElem?_append_right hi]at ho
 have:=g4 (i-os.length) o ho
 rw[←hc2,show os.length+(i-os.length)=i by omega]at this
 exact this
theorem Fo:∀{l l':List FV}{k:Nat}{os:List Ob}{us:List Value}{ys:List VT},qQ W N [] l us ys→VT.okL W ys→tI k l=some (l',os)→Bnd W N k os ys (fun N' cs=>cA W N' cs l' us)
 | [],l',k,os,us,ys,hr,hok,h=>by
  simp[tI]at h
  obtain⟨rfl,rfl⟩:=h
  obtain⟨rfl,rfl⟩:=hr
  exact⟨[],rfl,rfl,by simp[aC],fun N' cs hN hk hco=>⟨by simp[cA],fun i o ho=>by simp at ho⟩⟩
 | a::l,l',k,os,us,ys,⟨v,vs,y1,y2,h1,h2,h3,h4⟩,hok,h=>by
  subst h1 h2
  rw[jN]at hok
  unfold tI at h
  split at h
  ·rename_i a' os1 ha
   split at h
   ·rename_i l2 os2 hl
    injection h with h
    injection h with e1 e2
    subst e1 e2
    have q1:=wS h3 hok.1 ha
    have q2:=Fo h4 hok.2 hl
    obtain⟨cs2,e1,e2,e3,e4⟩:=q1.app q2
    exact⟨cs2,e1,e2,e3,fun N' cs hN hk hco=>by
     obtain⟨g1,g2⟩:=e4 N' cs hN hk hco
     exact⟨by simp only[cA];exact g1,g2⟩⟩
   cases h
  cases h
theorem Bk {k:Nat}{r v:FV}{os:List Ob}{u:Value}{ys:List VT}(hr:RO W N [] r u ys) (hok:VT.okL W ys) (h:iL k r=some (v,os)):Bnd W N k os ys (fun N' cs=>aR W N' cs v u):=by
 cases r with
 | tup l=>
  obtain⟨us,rfl,h2⟩:=hr
  unfold iL at h
  dsimp only at h
  split at h
  ·rename_i l' os' hl
   injection h with h
   injection h with h1 h2
   subst h1 h2
   obtain⟨cs2,e1,e2,e3,e4⟩:=Fo h2 hok hl
   exact⟨cs2,e1,e2,e3,fun N' cs hN hk hco=>⟨⟨us,rfl,(e4 N' cs hN hk hco).1⟩,(e4 N' cs hN hk hco).2⟩⟩
  cases h
 | any=>exact hr.elim
 | one a=>
  obtain⟨cs2,e1,e2,e3,e4⟩:=wS (r:=.one a) hr hok h
  exact⟨cs2,e1,e2,e3,fun N' cs hN hk hco=>⟨dB (e4 N' cs hN hk hco).1,(e4 N' cs hN hk hco).2⟩⟩
 | agg l=>
  obtain⟨cs2,e1,e2,e3,e4⟩:=wS (r:=.agg l) hr hok h
  exact⟨cs2,e1,e2,e3,fun N' cs hN hk hco=>⟨dB (e4 N' cs hN hk hco).1,(e4 N' cs hN hk hco).2⟩⟩
end
section
variable {x:Cx}{g g':Nat→FV}{ob ob':List (Option Ob)}{cs cs':List Co}{ts ts':Array Value}{W W':World}{T:List (Nat×TI)}{Q:Post}{ops:Array Oper}{rest:List Oper}{d:Nat}{ty:TypeId}{pos:String}{af:Array Edge}{gd:Option (Nat×Bool)}
theorem Bl {fresh:Bool}{f:FuncId}{args:List FV}{R:List Lt→FV→Prop}{aa:Array Operand}{ats:Array TypeId}{key:Nat}(hS:aE fresh x.P f [] args R) (hf:CallOk x.P f) (ha:AL fresh x g ob aa.toList args) (hk:dF ob key=true) (hb:∀r,R [] r→(iL key r).isSome=true):
  OS x ⟨some d,.call ⟨.value (.func f),aa,ats⟩,ty,pos,af,gd⟩ g ob [] (fun g' ob'=>∃r v os,R [] r∧iL key r=some (v,os)∧g'=aM g d v∧ob'=ob++os.map some):=by
 intro cs ts W hR K Q kk
 have hC:=xX hS ha hR
 obtain⟨fn,c,h1,h2,h3⟩:=hf
 have hrun:(execOp (Act.eval ⟨ts,[]⟩) ⟨some d,.call ⟨.value (.func f),aa,ats⟩,ty,pos,af,gd⟩).run x.P W=.ok (.enter f (aa.toList.map (Act.eval ⟨ts,[]⟩)).toArray) W:=by
  have e0:Act.eval ⟨ts,[]⟩ (.func f)=.func (.func f) #[] #[]:=rfl
  have e1:aa.map (Act.eval ⟨ts,[]⟩)=(aa.toList.map (Act.eval ⟨ts,[]⟩)).toArray:=by apply Array.ext';simp only[Array.toList_map]
  simp[execOp,resolve,e0,Deferred.ofValue,invoke,e1,callFunc,h1,h3]
  intro hn
  rw[hn]at h2
  simp at h2
 unfold Oper.wp
 rw[hrun]
 refine hC.mono fun e W' hE=>?_
 obtain⟨u,r,ys,rfl,hr,hbel,hok,hnd,hfp,hro⟩:=hE
 obtain⟨⟨v,os⟩,hbn⟩:=Option.isSome_iff_exists.1 (hb r hr)
 obtain⟨cs2,e1,e2,e3,e4⟩:=Bk hro hok hbn
 have hk:=Nat.eq_of_beq_eq_true hk
 have hlen:=hR.len
 have hrs:aC (ob++os.map some) (cs++cs2)=aC ob cs++aC (os.map some) cs2:=by
  unfold aC
  rw[List.zipWith_append hlen]
 have hext:=hR.2.ext hbel
 have hnew:∀b∈(aC (os.map some) cs2).flatMap Res.S,W.heap.size≤b∧b<W'.heap.size:=fun b hb=>hfp b (by rw[←e2];exact hb)
 have hL:Loc x.M x.w W' (aC (ob++os.map some) (cs++cs2)) []:=by
  rw[hrs]
  refine⟨hext.chg,fun q hq=>?_,fun b hb=>?_,?_,fun _ h=>by cases h⟩
  ·rcases List.mem_append.1 hq with hq | hq
   ·exact hext.res q hq
   exact e3 q hq
  ·rw[List.flatMap_append,List.mem_append]at hb
   rcases hb with hb | hb
   ·exact hext.blk b hb
   exact⟨.inr (Nat.le_trans hR.2.chg.size (hnew b hb).1),(hnew b hb).2⟩
  rw[List.flatMap_append,List.nodup_append]
  refine⟨hext.nd,by rw[e2];exact hnd,fun a ha b hb e=>?_⟩
  subst e
  have:=(hR.2.blk a ha).2
  have:=(hnew a hb).1
  omega
 have hown:∀b∈bP (ob++os.map some) (cs++cs2),b∈bP ob cs∨W.heap.size≤b:=fun b hb=>by
  unfold bP at hb
  rw[hrs,List.flatMap_append,List.mem_append]at hb
  rcases hb with hb | hb
  ·exact .inl hb
  exact .inr (hnew b hb).1
 have hsame:Same cs (cs++cs2):=⟨by simp,fun k hk=>by simp[co,List.getElem?_append_left hk]⟩
 have hcoA:∀k,k<cs.length→co (cs++cs2) k=co cs k:=fun k hk=>by simp[co,List.getElem?_append_left hk]
 have hcoB:∀i,co (cs++cs2) (key+i)=co cs2 i:=fun i=>by
  unfold co
  rw[List.getElem?_append_right (by omega),show key+i-cs.length=i by omega]
 have hN:∀b,x.fr W ob cs b→x.fr W' (ob++os.map some) (cs++cs2) b:=fun b h=>mP h hbel.size hown
 have hkeep:∀b,x.fr W ob cs b→W'.heap[b]? =W.heap[b]? :=fun b h=>hbel.block b h.1.1
 have hN2:∀b,(fresh=false∧b∉VT.fpL ys∧b<W'.heap.size∧(x.fr W ob cs b∨W.heap.size≤b))→x.fr W' (ob++os.map some) (cs++cs2) b:=fun b hb=>by
  obtain⟨_,h5,h6,h7⟩:=hb
  rcases h7 with h7 | h7
  ·exact hN b h7
  refine⟨⟨h6,fun hm=>?_⟩,.inr (.inr (Nat.le_trans hR.2.chg.size h7))⟩
  rw[hrs,List.flatMap_append,List.mem_append]at hm
  rcases hm with hm | hm
  ·have:=(hR.2.blk b hm).2
   omega
  exact h5 (by rw[←e2];exact hm)
 obtain⟨g1,g2⟩:=e4 _ (cs++cs2) hN2 (by simp[e1];omega) (fun i _=>hcoB i)
 have hR':RelC x g (ob++os.map some) (cs++cs2) ts W':=by
  refine .of hR.1 hL ⟨by simp[hlen,e1],fun k o hk'=>?_⟩ (fun i hi=>?_) (hR.3.trans hsame)
  ·rcases Nat.lt_or_ge k ob.length with hlt | hge
   ·rw[List.getElem?_append_left hlt]at hk'
    have h5:=hR.obs.2 k o hk'
    rw[hcoA k (by omega)]
    exact⟨bZ hkeep hN hsame _ _ h5.1,h5.2⟩
   rw[List.getElem?_append_right hge]at hk'
   have ho:os[k-ob.length]? =some o:=by
    rw[List.getElem?_map]at hk'
    cases hq:os[k-ob.length]? with
    | none=>rw[hq]at hk';cases hk'
    | some o'=>
     rw[hq]at hk'
     simp at hk'
     rw[hk']
   have h5:=g2 _ o ho
   have e9:=hcoB (k-ob.length)
   rw[show key+(k-ob.length)=k by omega]at e9
   rw[e9]
   exact h5
  obtain⟨u,h5,h6⟩:=hR.fv hi
  exact⟨u,h5,dH hkeep hN hsame _ _ h6⟩
 exact kk _ _ _ _ _ ⟨r,v,os,hr,hbn,rfl,rfl⟩ (hR'.put d g1) ⟨hsame,fun k _ hk=>hcoA k hk,hbel.size,fun b hlt _=>hbel.block b hlt,hown,fun i hi=>Array.getElem?_setIfInBounds_ne (fun e=>hi (by rw[e]))⟩
theorem Tt {fresh:Bool}{f:FuncId}{args:List FV}{r v:FV}{os:List Ob}{aa:Array Operand}{ats:Array TypeId}{key:Nat}(hw:aO ops x.n g gd=some true) (hS:aE fresh x.P f [] args (aI r)) (hf:CallOk x.P f) (ha:AL fresh x g ob aa.toList args) (hk:dF ob key=true) (hb:iL key r=some (v,os)) (k:WL x ops rest (aM g d v) (ob++os.map some) Q):
  WL x ops (⟨some d,.call ⟨.value (.func f),aa,ats⟩,ty,pos,af,gd⟩::rest) g ob Q:=
 eO (Bl hS hf ha hk (by rintro _ rfl;rw[hb];rfl)) hw (by
  rintro _ _ ⟨r',v',os',rfl,h,rfl,rfl⟩
  rw[hb]at h
  injection h with h
  injection h with h1 h2
  subst h1 h2
  exact k)
theorem Tu {late:Nat→Bool}{K fr:List Nat}{fuel:Nat}{listed:Array Bool}{fresh:Bool}{f:FuncId}{args:List FV}{r v:FV}{os:List Ob}{aa:Array Operand}{ats:Array TypeId}{key:Nat}(i:Nat) (hr:Region.ready .any ops listed=[i]) (hi:ops[i]? =some ⟨some d,.call ⟨.value (.func f),aa,ats⟩,ty,pos,af,gd⟩) (hw:aO ops x.n g gd=some true) (hS:aE fresh x.P f [] args (aI r)) (hf:CallOk x.P f) (ha:AL fresh x g ob aa.toList args) (hk:dF ob key=true) (hb:iL key r=some (v,os)) (hK:Yx K ob=true)
  (k:WD x ops Q late K (d::fr) true fuel (listed.setIfInBounds i true) (aM g d v) (ob++os.map some)):WD x ops Q late K fr true (fuel+1) listed g ob:=
 Hu (v:=v) i hr hi rfl hw (Bl hS hf ha hk (by rintro _ rfl;rw[hb];rfl)) (by
  rintro _ _ ⟨r',v',os',rfl,h,rfl,rfl⟩
  rw[hb]at h
  injection h with h
  injection h with h1 h2
  subst h1 h2
  exact⟨rfl,fun k hk'=>Ts (o:=none) hK k hk'⟩) (by
  rintro _ _ ⟨r',v',os',rfl,h,rfl,rfl⟩
  rw[hb]at h
  injection h with h
  injection h with h1 h2
  subst h1 h2
  exact k)
end
set_option maxRecDepth 100000
theorem TyArr.mk2 {P:Program}{t n size:Nat}(e:Nat) (h:P.underlying t=some (.array n e)) (h2:(P.info? e).map (·.size)=some size):TyArr P t n size:=by
 obtain⟨i,h3,h4⟩:=Option.map_eq_some_iff.1 h2
 exact⟨e,i,h,h3,h4⟩
theorem JV:dQ Tryz.prog 2 ⟨false,1,[.int .i64 0],.it .i64⟩:=⟨⟨.mk (by kernel_rfl) (by kernel_rfl),rfl⟩,.mk (by kernel_rfl),.mk (by kernel_rfl),.mk (by kernel_rfl)⟩
theorem JW:dQ Tryz.prog 3 ⟨false,1,[.int .i64 0],.it .i64⟩:=⟨⟨.mk (by kernel_rfl) (by kernel_rfl),rfl⟩,.mk (by kernel_rfl),.mk (by kernel_rfl),.mk (by kernel_rfl)⟩
theorem JX:dQ Tryz.prog 4 ⟨false,1,[.bool false],.bl⟩:=⟨⟨.mk (by kernel_rfl) (by kernel_rfl),rfl⟩,.mk (by kernel_rfl),.mk (by kernel_rfl),.mk (by kernel_rfl)⟩
theorem JY:dQ Tryz.prog 5 ⟨false,1,[.int .u8 0],.it .u8⟩:=⟨⟨.mk (by kernel_rfl) (by kernel_rfl),rfl⟩,.mk (by kernel_rfl),.mk (by kernel_rfl),.mk (by kernel_rfl)⟩
theorem JZ:dQ Tryz.prog 9 ⟨false,1,[.string ⟨#[]⟩],.str⟩:=⟨⟨.mk (by kernel_rfl) (by kernel_rfl),rfl⟩,.mk (by kernel_rfl),.mk (by kernel_rfl),.mk (by kernel_rfl)⟩
theorem HK:dQ Tryz.prog 23 ⟨false,1,[.slice none 0 0],.sl 115 1 4 (.int .u32 0)⟩:=⟨⟨.mk (by kernel_rfl) (by kernel_rfl),rfl⟩,.mk (by kernel_rfl),.mk (by kernel_rfl),⟨.mk (by kernel_rfl) (by kernel_rfl),.mk (by kernel_rfl) (by kernel_rfl) rfl (by decide)⟩⟩
theorem HM:dQ Tryz.prog 25 ⟨true,2,[.bool false,.slice none 0 0],.st [(0,4,1),(1,23,1)]⟩:=⟨.mk (by kernel_rfl) (by kernel_rfl),.mk (by kernel_rfl),.mk (by kernel_rfl),⟨⟨.mk (by kernel_rfl),.mk (by kernel_rfl),⟨.mk (by kernel_rfl),.mk (by kernel_rfl),trivial⟩⟩,.mk (by kernel_rfl)⟩⟩
theorem HP:dQ Tryz.prog 27 ⟨true,4,[.bool false,.slice none 0 0,.bool false,.slice none 0 0],.st [(0,25,2),(2,25,2)]⟩:=⟨.mk (by kernel_rfl) (by kernel_rfl),.mk (by kernel_rfl),.mk (by kernel_rfl),⟨⟨.mk (by kernel_rfl),.mk (by kernel_rfl),⟨.mk (by kernel_rfl),.mk (by kernel_rfl),trivial⟩⟩,.mk (by kernel_rfl)⟩⟩
theorem HR:dQ Tryz.prog 28 ⟨false,1,[.int .i64 0],.it .i64⟩:=⟨⟨.mk (by kernel_rfl) (by kernel_rfl),rfl⟩,.mk (by kernel_rfl),.mk (by kernel_rfl),.mk (by kernel_rfl)⟩
theorem HS:dQ Tryz.prog 31 ⟨true,2,[.bool false,.slice none 0 0],.st [(0,4,1),(1,23,1)]⟩:=⟨.mk (by kernel_rfl) (by kernel_rfl),.mk (by kernel_rfl),.mk (by kernel_rfl),⟨⟨.mk (by kernel_rfl),.mk (by kernel_rfl),⟨.mk (by kernel_rfl),.mk (by kernel_rfl),trivial⟩⟩,.mk (by kernel_rfl)⟩⟩
theorem HU:dQ Tryz.prog 33 ⟨true,4,[.bool false,.slice none 0 0,.bool false,.slice none 0 0],.st [(0,31,2),(2,31,2)]⟩:=⟨.mk (by kernel_rfl) (by kernel_rfl),.mk (by kernel_rfl),.mk (by kernel_rfl),⟨⟨.mk (by kernel_rfl),.mk (by kernel_rfl),⟨.mk (by kernel_rfl),.mk (by kernel_rfl),trivial⟩⟩,.mk (by kernel_rfl)⟩⟩
theorem HV:dQ Tryz.prog 54 ⟨false,1,[.slice none 0 0],.sl 9 1 16 (.string ⟨#[]⟩)⟩:=⟨⟨.mk (by kernel_rfl) (by kernel_rfl),rfl⟩,.mk (by kernel_rfl),.mk (by kernel_rfl),⟨.mk (by kernel_rfl) (by kernel_rfl),.mk (by kernel_rfl) (by kernel_rfl) rfl (by decide)⟩⟩
theorem HW:dQ Tryz.prog 55 ⟨false,1,[.slice none 0 0],.sl 3 1 8 (.int .i64 0)⟩:=⟨⟨.mk (by kernel_rfl) (by kernel_rfl),rfl⟩,.mk (by kernel_rfl),.mk (by kernel_rfl),⟨.mk (by kernel_rfl) (by kernel_rfl),.mk (by kernel_rfl) (by kernel_rfl) rfl (by decide)⟩⟩
theorem HZ:dQ Tryz.prog 90 ⟨false,1,[.slice none 0 0],.sl 27 4 64 (.agg #[.bool false,.slice none 0 0,.bool false,.slice none 0 0])⟩:=⟨⟨.mk (by kernel_rfl) (by kernel_rfl),rfl⟩,.mk (by kernel_rfl),.mk (by kernel_rfl),⟨.mk (by kernel_rfl) (by kernel_rfl),.mk (by kernel_rfl) (by kernel_rfl) rfl (by decide)⟩⟩
theorem IA:dQ Tryz.prog 93 ⟨true,4,[.bool false,.slice none 0 0,.bool false,.slice none 0 0],.st [(0,27,4)]⟩:=⟨.mk (by kernel_rfl) (by kernel_rfl),.mk (by kernel_rfl),.mk (by kernel_rfl),⟨⟨.mk (by kernel_rfl),.mk (by kernel_rfl),trivial⟩,.mk (by kernel_rfl)⟩⟩
theorem DD:dQ Tryz.prog 101 ⟨true,1,[.string ⟨#[]⟩],.st [(0,9,1)]⟩:=⟨.mk (by kernel_rfl) (by kernel_rfl),.mk (by kernel_rfl),.mk (by kernel_rfl),⟨⟨.mk (by kernel_rfl),.mk (by kernel_rfl),trivial⟩,.mk (by kernel_rfl)⟩⟩
theorem DE:dQ Tryz.prog 103 ⟨true,4,[.string ⟨#[]⟩,.bool false,.string ⟨#[]⟩,.string ⟨#[]⟩],.st [(0,101,1),(1,4,1),(2,9,1),(3,9,1)]⟩:=⟨.mk (by kernel_rfl) (by kernel_rfl),.mk (by kernel_rfl),.mk (by kernel_rfl),⟨⟨.mk (by kernel_rfl),.mk (by kernel_rfl),⟨.mk (by kernel_rfl),.mk (by kernel_rfl),⟨.mk (by kernel_rfl),.mk (by kernel_rfl),⟨.mk (by kernel_rfl),.mk (by kernel_rfl),trivial⟩⟩⟩⟩,.mk (by kernel_rfl)⟩⟩
theorem DF:dQ Tryz.prog 112 ⟨true,9,[.int .u8 0,.int .u8 0,.int .u8 0,.int .u8 0,.int .u8 0,.int .u8 0,.int .u8 0,.int .u8 0,.int .u8 0],.ar 9 1⟩:=⟨.mk (by kernel_rfl) (by kernel_rfl),.mk (by kernel_rfl),.mk (by kernel_rfl),TyArr.mk2 5 (by kernel_rfl) (by kernel_rfl)⟩
theorem DG:dQ Tryz.prog 113 ⟨false,1,[.slice none 0 0],.sl 5 1 1 (.int .u8 0)⟩:=⟨⟨.mk (by kernel_rfl) (by kernel_rfl),rfl⟩,.mk (by kernel_rfl),.mk (by kernel_rfl),⟨.mk (by kernel_rfl) (by kernel_rfl),.mk (by kernel_rfl) (by kernel_rfl) rfl (by decide)⟩⟩
theorem DH:dQ Tryz.prog 115 ⟨false,1,[.int .u32 0],.it .u32⟩:=⟨⟨.mk (by kernel_rfl) (by kernel_rfl),rfl⟩,.mk (by kernel_rfl),.mk (by kernel_rfl),.mk (by kernel_rfl)⟩
theorem DI:dQ Tryz.prog 119 ⟨false,1,[.int .u64 0],.it .u64⟩:=⟨⟨.mk (by kernel_rfl) (by kernel_rfl),rfl⟩,.mk (by kernel_rfl),.mk (by kernel_rfl),.mk (by kernel_rfl)⟩
theorem DJ:dQ Tryz.prog 128 ⟨false,1,[.nilIface],.ot⟩:=⟨⟨.mk (by kernel_rfl) (by kernel_rfl),rfl⟩,.mk (by kernel_rfl),.mk (by kernel_rfl),trivial⟩
theorem DK:dQ Tryz.prog 152 ⟨false,1,[.int .u64 0],.it .u64⟩:=⟨⟨.mk (by kernel_rfl) (by kernel_rfl),rfl⟩,.mk (by kernel_rfl),.mk (by kernel_rfl),.mk (by kernel_rfl)⟩
theorem DL:dQ Tryz.prog 155 ⟨true,2,[.bool false,.slice none 0 0],.st [(0,25,2)]⟩:=⟨.mk (by kernel_rfl) (by kernel_rfl),.mk (by kernel_rfl),.mk (by kernel_rfl),⟨⟨.mk (by kernel_rfl),.mk (by kernel_rfl),trivial⟩,.mk (by kernel_rfl)⟩⟩
theorem DM:dQ Tryz.prog 198 ⟨false,1,[.slice none 0 0],.sl 23 1 24 (.slice none 0 0)⟩:=⟨⟨.mk (by kernel_rfl) (by kernel_rfl),rfl⟩,.mk (by kernel_rfl),.mk (by kernel_rfl),⟨.mk (by kernel_rfl) (by kernel_rfl),.mk (by kernel_rfl) (by kernel_rfl) rfl (by decide)⟩⟩
theorem DN:dQ Tryz.prog 243 ⟨true,32,[.int .u8 0,.int .u8 0,.int .u8 0,.int .u8 0,.int .u8 0,.int .u8 0,.int .u8 0,.int .u8 0,.int .u8 0,.int .u8 0,.int .u8 0,.int .u8 0,.int .u8 0,.int .u8 0,.int .u8 0,.int .u8 0,.int .u8 0,.int .u8 0,.int .u8 0,.int .u8 0,.int .u8 0,.int .u8 0,.int .u8 0,.int .u8 0,.int .u8 0,.int .u8 0,.int .u8 0,.int .u8 0,.int .u8 0,.int .u8 0,.int .u8 0,.int .u8 0],.ar 32 1⟩:=⟨.mk (by kernel_rfl) (by kernel_rfl),.mk (by kernel_rfl),.mk (by kernel_rfl),TyArr.mk2 5 (by kernel_rfl) (by kernel_rfl)⟩
theorem DO:dQ Tryz.prog 244 ⟨true,64,[.int .u8 0,.int .u8 0,.int .u8 0,.int .u8 0,.int .u8 0,.int .u8 0,.int .u8 0,.int .u8 0,.int .u8 0,.int .u8 0,.int .u8 0,.int .u8 0,.int .u8 0,.int .u8 0,.int .u8 0,.int .u8 0,.int .u8 0,.int .u8 0,.int .u8 0,.int .u8 0,.int .u8 0,.int .u8 0,.int .u8 0,.int .u8 0,.int .u8 0,.int .u8 0,.int .u8 0,.int .u8 0,.int .u8 0,.int .u8 0,.int .u8 0,.int .u8 0,.int .u8 0,.int .u8 0,.int .u8 0,.int .u8 0,.int .u8 0,.int .u8 0,.int .u8 0,.int .u8 0,.int .u8 0,.int .u8 0,.int .u8 0,.int .u8 0,.int .u8 0,.int .u8 0,.int .u8 0,.int .u8 0,.int .u8 0,.int .u8 0,.int .u8 0,.int .u8 0,.int .u8 0,.int .u8 0,.int .u8 0,.int .u8 0,.int .u8 0,.int .u8 0,.int .u8 0,.int .u8 0,.int .u8 0,.int .u8 0,.int .u8 0,.int .u8 0],.ar 64 1⟩:=⟨.mk (by kernel_rfl) (by kernel_rfl),.mk (by kernel_rfl),.mk (by kernel_rfl),TyArr.mk2 5 (by kernel_rfl) (by kernel_rfl)⟩
def ttab:List (Nat×TI):=[(2,⟨false,1,[.int .i64 0],.it .i64⟩),
 (3,⟨false,1,[.int .i64 0],.it .i64⟩),
 (4,⟨false,1,[.bool false],.bl⟩),
 (5,⟨false,1,[.int .u8 0],.it .u8⟩),
 (9,⟨false,1,[.string ⟨#[]⟩],.str⟩),
 (23,⟨false,1,[.slice none 0 0],.sl 115 1 4 (.int .u32 0)⟩),
 (25,⟨true,2,[.bool false,.slice none 0 0],.st [(0,4,1),(1,23,1)]⟩),
 (27,⟨true,4,[.bool false,.slice none 0 0,.bool false,.slice none 0 0],.st [(0,25,2),(2,25,2)]⟩),
 (28,⟨false,1,[.int .i64 0],.it .i64⟩),
 (31,⟨true,2,[.bool false,.slice none 0 0],.st [(0,4,1),(1,23,1)]⟩),
 (33,⟨true,4,[.bool false,.slice none 0 0,.bool false,.slice none 0 0],.st [(0,31,2),(2,31,2)]⟩),
 (54,⟨false,1,[.slice none 0 0],.sl 9 1 16 (.string ⟨#[]⟩)⟩),
 (55,⟨false,1,[.slice none 0 0],.sl 3 1 8 (.int .i64 0)⟩),
 (90,⟨false,1,[.slice none 0 0],.sl 27 4 64 (.agg #[.bool false,.slice none 0 0,.bool false,.slice none 0 0])⟩),
 (93,⟨true,4,[.bool false,.slice none 0 0,.bool false,.slice none 0 0],.st [(0,27,4)]⟩),
 (101,⟨true,1,[.string ⟨#[]⟩],.st [(0,9,1)]⟩),
 (103,⟨true,4,[.string ⟨#[]⟩,.bool false,.string ⟨#[]⟩,.string ⟨#[]⟩],.st [(0,101,1),(1,4,1),(2,9,1),(3,9,1)]⟩),
 (112,⟨true,9,[.int .u8 0,.int .u8 0,.int .u8 0,.int .u8 0,.int .u8 0,.int .u8 0,.int .u8 0,.int .u8 0,.int .u8 0],.ar 9 1⟩),
 (113,⟨false,1,[.slice none 0 0],.sl 5 1 1 (.int .u8 0)⟩),
 (115,⟨false,1,[.int .u32 0],.it .u32⟩),
 (119,⟨false,1,[.int .u64 0],.it .u64⟩),
 (128,⟨false,1,[.nilIface],.ot⟩),
 (152,⟨false,1,[.int .u64 0],.it .u64⟩),
 (155,⟨true,2,[.bool false,.slice none 0 0],.st [(0,25,2)]⟩),
 (198,⟨false,1,[.slice none 0 0],.sl 23 1 24 (.slice none 0 0)⟩),
 (243,⟨true,32,[.int .u8 0,.int .u8 0,.int .u8 0,.int .u8 0,.int .u8 0,.int .u8 0,.int .u8 0,.int .u8 0,.int .u8 0,.int .u8 0,.int .u8 0,.int .u8 0,.int .u8 0,.int .u8 0,.int .u8 0,.int .u8 0,.int .u8 0,.int .u8 0,.int .u8 0,.int .u8 0,.int .u8 0,.int .u8 0,.int .u8 0,.int .u8 0,.int .u8 0,.int .u8 0,.int .u8 0,.int .u8 0,.int .u8 0,.int .u8 0,.int .u8 0,.int .u8 0],.ar 32 1⟩),
 (244,⟨true,64,[.int .u8 0,.int .u8 0,.int .u8 0,.int .u8 0,.int .u8 0,.int .u8 0,.int .u8 0,.int .u8 0,.int .u8 0,.int .u8 0,.int .u8 0,.int .u8 0,.int .u8 0,.int .u8 0,.int .u8 0,.int .u8 0,.int .u8 0,.int .u8 0,.int .u8 0,.int .u8 0,.int .u8 0,.int .u8 0,.int .u8 0,.int .u8 0,.int .u8 0,.int .u8 0,.int .u8 0,.int .u8 0,.int .u8 0,.int .u8 0,.int .u8 0,.int .u8 0,.int .u8 0,.int .u8 0,.int .u8 0,.int .u8 0,.int .u8 0,.int .u8 0,.int .u8 0,.int .u8 0,.int .u8 0,.int .u8 0,.int .u8 0,.int .u8 0,.int .u8 0,.int .u8 0,.int .u8 0,.int .u8 0,.int .u8 0,.int .u8 0,.int .u8 0,.int .u8 0,.int .u8 0,.int .u8 0,.int .u8 0,.int .u8 0,.int .u8 0,.int .u8 0,.int .u8 0,.int .u8 0,.int .u8 0,.int .u8 0,.int .u8 0,.int .u8 0],.ar 64 1⟩)]
theorem aB:bG Tryz.prog ttab:=⟨JV,JW,JX,JY,JZ,HK,HM,HP,HR,HS,HU,HV,HW,HZ,IA,DD,DE,DF,DG,DH,DI,DJ,DK,DL,DM,DN,DO,trivial⟩
theorem sJ:CallOk Tryz.prog 7:=.mk Tryz.func7 (by decide) rfl
theorem Qq:CallOk Tryz.prog 8:=.mk Tryz.func8 (by decide) rfl
theorem FM:CallOk Tryz.prog 9:=.mk Tryz.func9 (by decide) rfl
theorem mZ:CallOk Tryz.prog 10:=.mk Tryz.func10 (by decide) rfl
theorem vY:CallOk Tryz.prog 16:=.mk Tryz.func16 (by decide) rfl
theorem Oc:CallOk Tryz.prog 18:=.mk Tryz.func18 (by decide) rfl
theorem Aj:CallOk Tryz.prog 19:=.mk Tryz.func19 (by decide) rfl
theorem eM:CallOk Tryz.prog 22:=.mk Tryz.func22 (by decide) rfl
theorem Hg:CallOk Tryz.prog 23:=.mk Tryz.func23 (by decide) rfl
theorem GQ:CallOk Tryz.prog 24:=.mk Tryz.func24 (by decide) rfl
theorem GR:CallOk Tryz.prog 25:=.mk Tryz.func25 (by decide) rfl
theorem Ye:CallOk Tryz.prog 26:=.mk Tryz.func26 (by decide) rfl
theorem iV:CallOk Tryz.prog 27:=.mk Tryz.func27 (by decide) rfl
theorem GS:CallOk Tryz.prog 28:=.mk Tryz.func28 (by decide) rfl
theorem Ab:CallOk Tryz.prog 29:=.mk Tryz.func29 (by decide) rfl
theorem nA:CallOk Tryz.prog 30:=.mk Tryz.func30 (by decide) rfl
theorem Pb:CallOk Tryz.prog 31:=.mk Tryz.func31 (by decide) rfl
theorem IB:CallOk Tryz.prog 32:=.mk Tryz.func32 (by decide) rfl
theorem GD:CallOk Tryz.prog 40:=.mk Tryz.func40 (by decide) rfl
theorem GF:CallOk Tryz.prog 41:=.mk Tryz.func41 (by decide) rfl
theorem GG:CallOk Tryz.prog 42:=.mk Tryz.func42 (by decide) rfl
theorem GH:CallOk Tryz.prog 54:=.mk Tryz.func54 (by decide) rfl
theorem GI:CallOk Tryz.prog 55:=.mk Tryz.func55 (by decide) rfl
theorem Gz:CallOk Tryz.prog 56:=.mk Tryz.func56 (by decide) rfl
theorem GK:CallOk Tryz.prog 57:=.mk Tryz.func57 (by decide) rfl
theorem GJ:CallOk Tryz.prog 58:=.mk Tryz.func58 (by decide) rfl
theorem eF:CallOk Tryz.prog 60:=.mk Tryz.func60 (by decide) rfl
theorem Bm:CallOk Tryz.prog 61:=.mk Tryz.func61 (by decide) rfl
theorem sY:CallOk Tryz.prog 62:=.mk Tryz.func62 (by decide) rfl
theorem Hw:CallOk Tryz.prog 63:=.mk Tryz.func63 (by decide) rfl
theorem Oa:CallOk Tryz.prog 64:=.mk Tryz.func64 (by decide) rfl
theorem pD:CallOk Tryz.prog 65:=.mk Tryz.func65 (by decide) rfl
theorem Bn:CallOk Tryz.prog 66:=.mk Tryz.func66 (by decide) rfl
theorem IC:CallOk Tryz.prog 67:=.mk Tryz.func67 (by decide) rfl
theorem ID:CallOk Tryz.prog 68:=.mk Tryz.func68 (by decide) rfl
theorem IE:CallOk Tryz.prog 69:=.mk Tryz.func69 (by decide) rfl
theorem Za:CallOk Tryz.prog 70:=.mk Tryz.func70 (by decide) rfl
theorem IF:CallOk Tryz.prog 71:=.mk Tryz.func71 (by decide) rfl
theorem wT:CallOk Tryz.prog 72:=.mk Tryz.func72 (by decide) rfl
theorem GP:CallOk Tryz.prog 73:=.mk Tryz.func73 (by decide) rfl
theorem FW:CallOk Tryz.prog 83:=.mk Tryz.func83 (by decide) rfl
theorem FY:CallOk Tryz.prog 84:=.mk Tryz.func84 (by decide) rfl
theorem FX:CallOk Tryz.prog 85:=.mk Tryz.func85 (by decide) rfl
theorem IG:CallOk Tryz.prog 86:=.mk Tryz.func86 (by decide) rfl
theorem IH:CallOk Tryz.prog 87:=.mk Tryz.func87 (by decide) rfl
theorem II:CallOk Tryz.prog 88:=.mk Tryz.func88 (by decide) rfl
theorem Pc:CallOk Tryz.prog 89:=.mk Tryz.func89 (by decide) rfl
theorem IJ:CallOk Tryz.prog 90:=.mk Tryz.func90 (by decide) rfl
theorem CK:CallOk Tryz.prog 107:=.mk Tryz.func107 (by decide) rfl
theorem CJ:CallOk Tryz.prog 108:=.mk Tryz.func108 (by decide) rfl
theorem Hz:CallOk Tryz.prog 109:=.mk Tryz.func109 (by decide) rfl
theorem yZ:CallOk Tryz.prog 110:=.mk Tryz.func110 (by decide) rfl
theorem DP:CallOk Tryz.prog 116:=.mk Tryz.func116 (by decide) rfl
theorem iE:CallOk Tryz.prog 117:=.mk Tryz.func117 (by decide) rfl
theorem bV:CallOk Tryz.prog 118:=.mk Tryz.func118 (by decide) rfl
theorem Qz:CallOk Tryz.prog 119:=.mk Tryz.func119 (by decide) rfl
theorem zA:CallOk Tryz.prog 120:=.mk Tryz.func120 (by decide) rfl
theorem Ra:CallOk Tryz.prog 121:=.mk Tryz.func121 (by decide) rfl
theorem Rb:CallOk Tryz.prog 122:=.mk Tryz.func122 (by decide) rfl
theorem Ia:CallOk Tryz.prog 125:=.mk Tryz.func125 (by decide) rfl
theorem DQ:CallOk Tryz.prog 126:=.mk Tryz.func126 (by decide) rfl
theorem DR:CallOk Tryz.prog 127:=.mk Tryz.func127 (by decide) rfl
theorem DS:CallOk Tryz.prog 135:=.mk Tryz.func135 (by decide) rfl
theorem DT:CallOk Tryz.prog 136:=.mk Tryz.func136 (by decide) rfl
theorem DU:CallOk Tryz.prog 137:=.mk Tryz.func137 (by decide) rfl
theorem DV:CallOk Tryz.prog 155:=.mk Tryz.func155 (by decide) rfl
theorem Ib:CallOk Tryz.prog 156:=.mk Tryz.func156 (by decide) rfl
theorem Rc:CallOk Tryz.prog 157:=.mk Tryz.func157 (by decide) rfl
theorem uO:CallOk Tryz.prog 158:=.mk Tryz.func158 (by decide) rfl
theorem Re:CallOk Tryz.prog 162:=.mk Tryz.func162 (by decide) rfl
theorem Rf:CallOk Tryz.prog 163:=.mk Tryz.func163 (by decide) rfl
theorem zB:CallOk Tryz.prog 164:=.mk Tryz.func164 (by decide) rfl
theorem rZ:CallOk Tryz.prog 165:=.mk Tryz.func165 (by decide) rfl
theorem uP:CallOk Tryz.prog 166:=.mk Tryz.func166 (by decide) rfl
theorem DW:CallOk Tryz.prog 167:=.mk Tryz.func167 (by decide) rfl
theorem DX:CallOk Tryz.prog 173:=.mk Tryz.func173 (by decide) rfl
theorem DY:CallOk Tryz.prog 174:=.mk Tryz.func174 (by decide) rfl
theorem Ic:CallOk Tryz.prog 175:=.mk Tryz.func175 (by decide) rfl
theorem DZ:CallOk Tryz.prog 178:=.mk Tryz.func178 (by decide) rfl
theorem mixed:Tryz.prog.follows .mixedOrders=true:=by kernel_rfl
section
variable {x:Cx}{g:Nat→FV}{ob ob':List (Option Ob)}{Q:Post}{ops:Array Oper}{rest:List Oper}{d:Nat}{op:Op}{ty:TypeId}{pos:String}{af:Array Edge}{gd:Option (Nat×Bool)}{C:Prop}{v:FV}
theorem o1 (k:WL x ops rest (aM g d v) ob Q) (hT:bG x.P ttab:=by exact aB) (hw:aO ops x.n g gd=some true:=by rfl) (h:pV ttab x.n g op=some (C,v):=by rfl) (hC:C:=by first | trivial | omega | (simp only[lB];omega)):WL x ops (⟨some d,op,ty,pos,af,gd⟩::rest) g ob Q:=JQ hT hw h hC k
theorem ld {t:Nat}{i:TI}{a:Operand}(k:WL x ops rest (aM g d v) ob Q) (hT:bG x.P ttab:=by exact aB) (hw:aO ops x.n g gd=some true:=by rfl) (hi:aS ttab t=some i:=by rfl) (h:nR ob i (lk x.n g a)=some (C,v):=by rfl):WL x ops (⟨some d,.load t a,ty,pos,af,gd⟩::rest) g ob Q:=HD hT hw hi h k
theorem xP {t:Nat}{i:TI}{a:Operand}{l:List Tr}{of:Nat}(us:List Tr) (hl:(l.drop of).take us.length=us) (k:WL x ops rest (aM g d v) ob Q) (hT:bG x.P ttab:=by exact aB) (hw:aO ops x.n g gd=some true:=by rfl) (hi:aS ttab t=some i:=by rfl) (h:lk x.n g a=.one (.ef l of):=by rfl) (hv:Kn i us=some v:=by rfl):WL x ops (⟨some d,.load t a,ty,pos,af,gd⟩::rest) g ob Q:=DB hT hw hi h hl hv k
theorem al {t:Nat}(key:Nat) (k:WL x ops rest (aM g d (.one (.pt key 0))) ob' Q) (hT:bG x.P ttab:=by exact aB) (hw:aO ops x.n g gd=some true:=by rfl) (h:wK ttab t key ob=some ob':=by rfl):WL x ops (⟨some d,.alloc t,ty,pos,af,gd⟩::rest) g ob Q:=HE hT hw h k
theorem bx {t:Nat}{a:Operand}(key:Nat) (k:WL x ops rest (aM g d (.one (.pt key 0))) ob' Q) (hw:aO ops x.n g gd=some true:=by rfl) (h:Ho t key (lk x.n g a) ob=some ob':=by rfl):WL x ops (⟨some d,.box t a,ty,pos,af,gd⟩::rest) g ob Q:=HF hw h k
theorem st {t:Nat}{i:TI}{a b:Operand}(k:WL x ops rest g ob' Q) (hT:bG x.P ttab:=by exact aB) (hw:aO ops x.n g gd=some true:=by rfl) (hi:aS ttab t=some i:=by rfl) (h:qM i ob (lk x.n g b) (lk x.n g a)=some ob':=by rfl):WL x ops (⟨none,.store t a b,ty,pos,af,gd⟩::rest) g ob Q:=HH hT hw hi h k
theorem bs {t len:Nat}{ps:Array (Nat×Operand)}(key:Nat) (k:WL x ops rest (aM g d (.one (.sl key 0 len))) ob' Q) (hT:bG x.P ttab:=by exact aB) (hw:aO ops x.n g gd=some true:=by rfl) (h:Bg ttab x.n g t len key ps.toList ob=some ob':=by rfl):WL x ops (⟨some d,.buildSlice t len ps,ty,pos,af,gd⟩::rest) g ob Q:=HI hT hw h k
theorem dE {o:Oper}(k:WL x ops rest (aM g d (.one (tv undef))) ob Q) (hw:aO ops x.n g o.guard=some false:=by rfl) (hd:o.dst=some d:=by rfl):WL x ops (o::rest) g ob Q:=HC hw hd k
theorem ca {fresh:Bool}{f:FuncId}{args:List FV}{r:FV}{aa:Array Operand}{ats:Array TypeId}(hS:aE fresh x.P f [] args (aI r)) (hf:CallOk x.P f) (ha:AL fresh x g ob aa.toList args) (v:FV) (k:WL x ops rest (aM g d v) ob Q) (hw:aO ops x.n g gd=some true:=by rfl) (hv:sL r=v:=by rfl):
  WL x ops (⟨some d,.call ⟨.value (.func f),aa,ats⟩,ty,pos,af,gd⟩::rest) g ob Q:=Yw hw hS hf ha hv k
variable {late:Nat→Bool}{K fr:List Nat}{on:Bool}{fuel:Nat}{listed:Array Bool}
theorem dv (i:Nat) (k:WD x ops Q late K fr true fuel (listed.setIfInBounds i true) (aM g d v) ob) (hT:bG x.P ttab:=by exact aB) (hi:ops[i]? =some ⟨some d,op,ty,pos,af,gd⟩:=by rfl) (hst:kU ops late listed i=true:=by kernel_rfl) (hw:aO ops x.n g gd=some true:=by rfl) (h:pV ttab x.n (kT fr g) op=some (C,v):=by rfl) (hC:C:=by first | trivial | omega | (simp only[lB];omega)) (hg:pV ttab x.n g op=some (C,v):=by rfl):WD x ops Q late K fr true (fuel+1) listed g ob:=dt i hT hi hst hw h hC hg k
theorem df (i:Nat) (k:WD x ops Q late K (d::fr) true fuel (listed.setIfInBounds i true) (aM g d v) ob) (hT:bG x.P ttab:=by exact aB) (hi:ops[i]? =some ⟨some d,op,ty,pos,af,gd⟩:=by rfl) (hst:kU ops late listed i=true:=by kernel_rfl) (hw:aO ops x.n g gd=some true:=by rfl) (h:pV ttab x.n g op=some (C,v):=by rfl) (hC:C:=by first | trivial | omega | (simp only[lB];omega)):WD x ops Q late K fr true (fuel+1) listed g ob:=JR i hT hi hst hw h hC k
theorem bD {t:Nat}{ti:TI}{a:Operand}{key off:Nat}(i:Nat) (k:WD x ops Q late K fr true fuel (listed.setIfInBounds i true) (aM g d v) ob) (hT:bG x.P ttab:=by exact aB) (hi:ops[i]? =some ⟨some d,.load t a,ty,pos,af,gd⟩:=by rfl) (hst:kU ops late listed i=true:=by kernel_rfl) (hw:aO ops x.n g gd=some true:=by rfl) (hti:aS ttab t=some ti:=by rfl) (hlk:lk x.n g a=.one (.pt key off):=by rfl) (hK:K.contains key=true:=by rfl) (h:nR ob ti (.one (.pt key off))=some (C,v):=by rfl):WD x ops Q late K fr true (fuel+1) listed g ob:=dl i hT hi hst hw hti hlk hK h k
theorem bF (i:Nat) (k:WD x ops Q late K fr true fuel (listed.setIfInBounds i true) (aM g d (.one (tv undef))) ob) (hi:ops[i]? =some ⟨some d,op,ty,pos,af,gd⟩:=by rfl) (hst:kU ops late listed i=true:=by kernel_rfl) (hw:aO ops x.n g gd=some false:=by rfl):WD x ops Q late K fr true (fuel+1) listed g ob:=dn i hi hst hw k
theorem aN {fresh:Bool}{f:FuncId}{args:List FV}{r:FV}{aa:Array Operand}{ats:Array TypeId}(i:Nat) (hi:ops[i]? =some ⟨some d,.call ⟨.value (.func f),aa,ats⟩,ty,pos,af,gd⟩) (hS:aE fresh x.P f [] args (aI r)) (hf:CallOk x.P f) (ha:AL fresh x g ob aa.toList args) (v:FV) (k:WD x ops Q late K (d::fr) true fuel (listed.setIfInBounds i true) (aM g d v) ob) (hr:Region.ready .any ops listed=[i]:=by kernel_rfl) (hw:aO ops x.n g gd=some true:=by rfl) (hv:sL r=v:=by rfl):WD x ops Q late K fr true (fuel+1) listed g ob:=Yy i hr hi hw hS hf ha hv k
theorem iA {fresh:Bool}{f:FuncId}{args:List FV}{r:FV}{aa:Array Operand}{ats:Array TypeId}(i:Nat) (hi:ops[i]? =some ⟨some d,.call ⟨.value (.func f),aa,ats⟩,ty,pos,af,gd⟩) (hS:aE fresh x.P f [] args (aI r)) (hf:CallOk x.P f) (ha:AL fresh x g ob aa.toList args) (v:FV) (k:WD x ops Q late K (d::fr) true fuel (listed.setIfInBounds i true) (aM g d v) ob) (hw:aO ops x.n g gd=some true:=by rfl) (hv:sL r=v:=by rfl):WO x ops Q late K fr true fuel listed i g ob:=Yz i hi hw hS hf ha hv k
theorem dst {t:Nat}{ti:TI}{a b:Operand}(i:Nat) (k:WD x ops Q late K fr false fuel (listed.setIfInBounds i true) g ob') (hT:bG x.P ttab:=by exact aB) (hr:Region.ready .any ops listed=[i]:=by kernel_rfl) (hi:ops[i]? =some ⟨none,.store t a b,ty,pos,af,gd⟩:=by rfl) (hw:aO ops x.n g gd=some true:=by rfl) (hti:aS ttab t=some ti:=by rfl) (h:qM ti ob (lk x.n g b) (lk x.n g a)=some ob':=by rfl) (hl:late i=true:=by rfl):WD x ops Q late K fr on (fuel+1) listed g ob:=HJ i hr hi hw hT hti h hl k
theorem gW {fresh:Bool}{f:FuncId}{args:List FV}{r:FV}{os:List Ob}{aa:Array Operand}{ats:Array TypeId}(key:Nat) (hS:aE fresh x.P f [] args (aI r)) (hf:CallOk x.P f) (ha:AL fresh x g ob aa.toList args) (k:WL x ops rest (aM g d v) (ob++os.map some) Q) (hw:aO ops x.n g gd=some true:=by rfl) (hk:dF ob key=true:=by rfl) (hb:iL key r=some (v,os):=by rfl):
  WL x ops (⟨some d,.call ⟨.value (.func f),aa,ats⟩,ty,pos,af,gd⟩::rest) g ob Q:=Tt hw hS hf ha hk hb k
theorem mU {fresh:Bool}{f:FuncId}{args:List FV}{r:FV}{os:List Ob}{aa:Array Operand}{ats:Array TypeId}(key i:Nat) (hi:ops[i]? =some ⟨some d,.call ⟨.value (.func f),aa,ats⟩,ty,pos,af,gd⟩) (hS:aE fresh x.P f [] args (aI r)) (hf:CallOk x.P f) (ha:AL fresh x g ob aa.toList args) (k:WD x ops Q late K (d::fr) true fuel (listed.setIfInBounds i true) (aM g d v) (ob++os.map some)) (hr:Region.ready .any ops listed=[i]:=by kernel_rfl) (hw:aO ops x.n g gd=some true:=by rfl) (hk:dF ob key=true:=by rfl) (hb:iL key r=some (v,os):=by rfl) (hK:Yx K ob=true:=by rfl):WD x ops Q late K fr true (fuel+1) listed g ob:=Tu i hr hi hw hS hf ha hk hb hK k
theorem bJ (h:Q .normal g ob) (hr:Region.ready .any ops listed=[]:=by kernel_rfl):WD x ops Q late K fr on fuel listed g ob:=dz hr h
end
theorem Kw {β:Type}:∀{o:Nat}{l:List AV}{a:AV}{r:List AV}{k:List AV→Option β},l.drop o=a::r→dp o l k=k (a::r)
 | 0,l,a,r,k,h=>by rw[List.drop_zero]at h;subst h;rfl
 | o+1,[],a,r,k,h=>by simp at h
 | o+1,b::l,a,r,k,h=>by
  rw[List.drop_succ_cons]at h
  exact Kw (o:=o) h
theorem Zb {ob:List (Option Ob)}{i:TI}{k o t z:Nat}{l:List AV}{a:AV}(ho:bN ob k=some ⟨t,z,l⟩) (hx:l[o]? =some a) (ha:i.agg=false) (hr:nQ a=true):nR ob i (.one (.pt k o))=some (True,.one a):=by
 obtain⟨h1,h2⟩:=List.getElem?_eq_some_iff.1 hx
 have h3:l.drop o=a::l.drop (o+1):=by rw[List.drop_eq_getElem_cons h1,h2]
 unfold nR
 dsimp only
 rw[ho]
 dsimp only
 unfold Ys
 rw[Kw h3,ha]
 simp[Aq,eD,hr,ev]
section
variable {x:Cx}{g:Nat→FV}{ob ob':List (Option Ob)}{Q:Post}{ops:Array Oper}{rest:List Oper}{d:Nat}{ty:TypeId}{pos:String}{af:Array Edge}{gd:Option (Nat×Bool)}{T:List (Nat×TI)}
theorem EA {t e by_ k m:Nat}{ti:Bool}{ts0:Nat}{z0:List Value}{kk k1 k2:IntKind}{a b:Operand}(hT:bG x.P T) (ht:aS T t=some ⟨ti,ts0,z0,.sl e 1 by_ (.int kk 0)⟩) (ha:lk x.n g a=.one (tv (.int k1 (m:Int)))) (hb:lk x.n g b=.one (tv (.int k2 (m:Int)))) (hby:by_≤16) (hm:m≤8796093022208) (hk:dF ob k=true):
  OS x ⟨some d,.makeSlice t a b,ty,pos,af,gd⟩ g ob [] (fun g' ob2=>g'=aM g d (.one (.sl k 0 m))∧ob2=ob++[some ⟨e,1,(List.replicate m (Value.int kk 0)).map tv⟩]):=by
 obtain⟨_,hel⟩:=(bR hT ht).2.2.2
 obtain⟨hu,i,hi,hz,hsize,hby',hzs,hsz⟩:=hel
 subst hby'
 have hk:=Nat.eq_of_beq_eq_true hk
 subst hk
 intro cs ts W hR K Q' kk'
 have e1:=hR.lk a
 rw[ha]at e1
 have e1:=aG e1
 have e2:=hR.lk b
 rw[hb]at e2
 have e2:=aG e2
 have hmul:i.bytes*m≤16*8796093022208:=Nat.mul_le_mul hby hm
 obtain⟨w',hrun,h1,h2⟩:=run_make_full (P:=x.P) W 0 t e i (.int kk 0) 1 hu hi hz hsize k1 k2 m (by omega) (by unfold maxLen;omega) (Nat.zero_le _)
 have hrun':(execOp (Act.eval ⟨ts,[]⟩) ⟨some d,.makeSlice t a b,ty,pos,af,gd⟩).run x.P W=.ok (.value (.slice (some ⟨W.heap.size,0,none⟩) m m)) w':=by
  simp[execOp,e1,e2,hrun]
 have e0:(madeCells (Value.int kk 0).cells (m*1)).toList=List.replicate m (.int kk 0):=by
  rw[Nat.mul_one]
  show(madeCells #[Value.int kk 0] m).toList=_
  rw[toList_madeCells_one]
 rw[e0]at h1
 generalize hus:List.replicate m (Value.int kk 0)=us at h1 kk'
 have hbl:Below W.heap.size W w':=(Below.refl _ _).grown h2 (Nat.le_refl _) (fun k hk=>by cases hk)
 rcases h1.2 with⟨hh,_⟩ | ⟨g1,cap,cur,hv,_,hg,hnc,hcm,hcs,htake⟩
 ·injection hh with h3;cases h3
 injection hv with q1 q2 q3
 injection q1 with q1
 injection q1 with q1
 subst q1 q3
 have hlt:W.heap.size<w'.heap.size:=(Array.getElem?_eq_some_iff.1 hg).1
 have hcur:cur.toList=us:=by
  have h9:cur.toList.length=m*1:=by simpa using hcs
  rw[←htake,List.take_of_length_le (by omega)]
 have hS:∀b∈(aF (some ⟨e,1,us.map tv⟩) ⟨some W.heap.size,m,us.map .w⟩).S,W.heap.size≤b∧b<w'.heap.size:=by
  intro b hb
  simp[aF,gQ]at hb
  subst hb
  exact⟨Nat.le_refl _,hlt⟩
 have hown:∀b∈bP (ob++[some ⟨e,1,us.map tv⟩]) (cs++[⟨some W.heap.size,m,us.map .w⟩]),b∈bP ob cs∨W.heap.size≤b:=by
  intro b hb
  unfold bP aC at hb
  rw[List.zipWith_append hR.len,List.flatMap_append,List.mem_append]at hb
  rcases hb with hb | hb
  ·exact .inl hb
  exact .inr (hS b (by simpa using hb)).1
 have m1:RelC x g (ob++[some ⟨e,1,us.map tv⟩]) (cs++[⟨some W.heap.size,m,us.map .w⟩]) ts w':=by
  refine hR.push hbl _ _ ?_ hS (by simp[aF,gQ]) ?_ (fun e=>by cases e)
  ·have hul:us.length=m:=by rw[←hus,List.length_replicate]
   simp only[aF,mR]
   refine⟨⟨[],?_,by simp[hul]⟩,mQ _,hcm⟩
   rw[List.append_nil,hg,←hcur]
  exact lY (iB _) (nS _)
 refine cO hrun' (kk' _ _ _ _ _ ⟨rfl,rfl⟩ (m1.put d ?_) ((Aft.mk .app (fun k _ hk=>kJ hk) hbl.size (fun b hlt _=>hbl.block b hlt) hown (fun _ _=>rfl):Aft [] (some d) ob cs ts W _ _ ts w').then_put _))
 refine dV ?_
 simp only[AR]
 rw[hR.len,eH]
 exact⟨by simp[hR.len],0,m,rfl,Nat.le_refl _,hcm,fun _=>rfl,fun _=>rfl⟩
inductive FzN (key:Nat):List AV→List AV→Prop
 | nil:FzN key [] []
 | id {a:AV}{l l':List AV}(h:FzN key l l'):FzN key (a::l) (a::l')
 | sl {l l':List AV}(h:FzN key l l'):FzN key (tv (.slice none 0 0)::l) (.sl key 0 0::l')
theorem FzN.ok {key:Nat}{W:World}{N:Nat→Prop}{cs:List Co}(hk:key<cs.length) (hb:(co cs key).b=none):∀{l l':List AV},FzN key l l'→∀{ys:List VT},aU W N cs l ys→aU W N cs l' ys
 | _,_,.nil,ys,h=>h
 | _,_,.id h',[],h=>by simp only[aU]at h
 | _,_,.id h',y::ys,h=>by
  simp only[aU]at h⊢
  exact⟨h.1,FzN.ok hk hb h' h.2⟩
 | _,_,.sl h',[],h=>by simp only[aU]at h
 | _,_,.sl h',y::ys,h=>by
  simp only[aU]at h⊢
  refine⟨?_,FzN.ok hk hb h' h.2⟩
  have h1:=h.1
  simp only[tv,CR,OR]at h1
  subst h1
  simp only[CR,AR,hb]
  exact⟨hk,trivial,trivial,trivial⟩
theorem FzN.nl {key:Nat}:∀{l l':List AV},FzN key l l'→(l=[]↔l'=[])
 | _,_,.nil=>Iff.rfl
 | _,_,.id h'=>by simp
 | _,_,.sl h'=>by simp
theorem FO {j key e z t' z':Nat}{l l':List AV}(hz:Nat.beq z 0=false) (hk:dF ob key=true) (ho:bN ob j=some ⟨t',z',l⟩) (hl:FzN key l l'):Sub x g ob g (ob.set j (some ⟨t',z',l'⟩)++[some ⟨e,z,[]⟩]):=by
 rintro ts W ⟨cs,hR⟩
 have hk:=Nat.eq_of_beq_eq_true hk
 have hj:=cD ho
 have hz0:z≠0:=fun e=>by subst e;simp at hz
 have hlt:=(List.getElem?_eq_some_iff.1 hj).1
 have m1:=hR.push (Below.refl _ _) ⟨e,z,[]⟩ ⟨none,0,[]⟩ (by simp[aF]) (by simp[aF]) (by simp[aF]) (by simp[aU]) (fun _=>⟨rfl,hz0⟩)
 have hj':(ob++[some ⟨e,z,[]⟩])[j]? =some (some ⟨t',z',l⟩):=by rw[List.getElem?_append_left hlt];exact hj
 have hb0:(co (cs++[⟨none,0,[]⟩]) key).b=none:=by rw[←hk,hR.len,eH]
 have hkl:key<(cs++[(⟨none,0,[]⟩:Co)]).length:=by rw[←hk,hR.len];simp
 have hm:=m1.obs.2 j _ hj'
 have hup:=m1.upd hj' ⟨t',z',l'⟩ (co (cs++[⟨none,0,[]⟩]) j) (Chg.refl _ _) rfl rfl (by rw[gG l' l];exact m1.res hj') (fun b hb=>.inl (by rw[gG l l'];exact hb)) (by rw[gG l' l];exact m1.2.nd1 (List.mem_of_getElem? (aT m1.len hj')))
  (fun h1 h2 h3=>by
   have h4:aU W (x.fr W (ob++[some ⟨e,z,[]⟩]) (cs++[⟨none,0,[]⟩])) (cs++[⟨none,0,[]⟩]) l' (co (cs++[⟨none,0,[]⟩]) j).l:=hl.ok hkl hb0 hm.1
   exact bZ (fun _ _=>rfl) h2 h3 _ _ h4) (fun hb=>by
   have:=hm.2 hb
   exact⟨hl.nl.1 this.1,this.2⟩)
 have e1:(ob++[some (⟨e,z,[]⟩:Ob)]).set j (some ⟨t',z',l'⟩)=ob.set j (some ⟨t',z',l'⟩)++[some ⟨e,z,[]⟩]:=List.set_append_left _ _ hlt
 rw[e1]at hup
 exact⟨_,hup.1⟩
theorem mk {t e by_ m:Nat}{ti:Bool}{ts0:Nat}{z0:List Value}{kk k1 k2:IntKind}{a b:Operand}(key:Nat) (hm:m≤8796093022208){l:List AV}(hl:(List.replicate m (Value.int kk 0)).map tv=l) (k:WL x ops rest (aM g d (.one (.sl key 0 m))) (ob++[some ⟨e,1,l⟩]) Q) (hT:bG x.P ttab:=by exact aB) (hw:aO ops x.n g gd=some true:=by rfl)
  (ht:aS ttab t=some ⟨ti,ts0,z0,.sl e 1 by_ (.int kk 0)⟩:=by rfl) (ha:lk x.n g a=.one (tv (.int k1 (m:Int))):=by rfl) (hb:lk x.n g b=.one (tv (.int k2 (m:Int))):=by rfl) (hby:by_≤16:=by decide) (hk:dF ob key=true:=by rfl):WL x ops (⟨some d,.makeSlice t a b,ty,pos,af,gd⟩::rest) g ob Q:=by
 subst hl
 exact eO (EA hT ht ha hb hby hm hk) hw (by rintro _ _ ⟨rfl,rfl⟩;exact k)
theorem KA {t key o t' z':Nat}{ti:TI}{a b:Operand}{l l' us:List AV}(hl:cE l o us=l') (hle:o+us.length≤l.length) (k:WL x ops rest g (ob.set key (some ⟨t',z',l'⟩)) Q) (hT:bG x.P ttab:=by exact aB) (hw:aO ops x.n g gd=some true:=by rfl) (hti:aS ttab t=some ti:=by rfl) (hlk:lk x.n g a=.one (.pt key o):=by rfl) (ho:bN ob key=some ⟨t',z',l⟩:=by rfl)
  (hb:qL (lk x.n g b)=some us:=by rfl) (hlo:cH us=true:=by rfl) (hsz:Nat.beq us.length ti.size=true:=by rfl):WL x ops (⟨none,.store t a b,ty,pos,af,gd⟩::rest) g ob Q:=
 eO (uK hT hti hlk hb hlo hsz ho hle hl) hw (by rintro _ _ ⟨rfl,rfl⟩;exact k)
variable {late:Nat→Bool}{K fr:List Nat}{on:Bool}{fuel:Nat}{listed:Array Bool}
theorem Zc {t key o t' z':Nat}{ti:TI}{a b:Operand}{l l' us:List AV}(i:Nat) (hl:cE l o us=l') (hle:o+us.length≤l.length) (k:WD x ops Q late K fr false fuel (listed.setIfInBounds i true) g (ob.set key (some ⟨t',z',l'⟩))) (hT:bG x.P ttab:=by exact aB) (hr:Region.ready .any ops listed=[i]:=by kernel_rfl) (hi:ops[i]? =some ⟨none,.store t a b,ty,pos,af,gd⟩:=by rfl) (hw:aO ops x.n g gd=some true:=by rfl) (hti:aS ttab t=some ti:=by rfl)
  (hlk:lk x.n g a=.one (.pt key o):=by rfl) (ho:bN ob key=some ⟨t',z',l⟩:=by rfl) (hb:qL (lk x.n g b)=some us:=by rfl) (hlo:cH us=true:=by rfl) (hsz:Nat.beq us.length ti.size=true:=by rfl) (hlate:late i=true:=by rfl):WD x ops Q late K fr on (fuel+1) listed g ob:=by
 refine Ey i hr hi hw (uK (ty:=ty) (pos:=pos) (af:=af) (gd:=gd) hT hti hlk hb hlo hsz ho hle hl) false (fun h=>by cases h) (fun h=>by rw[hlate]at h;cases h) (fun h=>by cases h) fun g' ob' hR=>?_
 obtain⟨rfl,rfl⟩:=hR
 exact k
end
theorem Loc.cut {M:List Nat}{w W:World}{L L':List Res}{F:List Sh}(h:Loc M w W L F) (hc:∀b,(L'.flatMap Res.S).count b≤(L.flatMap Res.S).count b) (hφ:∀r∈L',r.φ W):Loc M w W L' F:=by
 have hin:∀b,b∈L'.flatMap Res.S→b∈L.flatMap Res.S:=fun b hb=>List.count_pos_iff.1 (Nat.lt_of_lt_of_le (List.count_pos_iff.2 hb) (hc b))
 exact⟨h.chg,hφ,fun b hb=>h.blk b (hin b hb),List.nodup_iff_count.2 fun b=>Nat.le_trans (hc b) (List.nodup_iff_count.1 h.nd b),fun q hq=>q.mono _ _ _ (fun b hb=>⟨hb.1,fun hm=>hb.2 (hin b hm)⟩) (h.shr q hq)⟩
section
variable {x:Cx}{g g':Nat→FV}{ob ob':List (Option Ob)}{cs cs':List Co}{ts ts':Array Value}{W W':World}{T:List (Nat×TI)}{Q:Post}{ops:Array Oper}{rest:List Oper}
end
def eG (ob:List (Option Ob)) (K0:List Nat):List Nat→List Lt→Prop
 | [],l=>l=[]
 | _::_,[]=>False
 | k::K,a::l=>Fa K0 (bN ob k) a.ob∧eG ob K0 K l
def dL (K0:List Nat):List Lt→List (Option Ob)→Prop
 | [],l=>l=[]
 | _::_,[]=>False
 | a::l,o::os=>Fa K0 o a.ob∧dL K0 l os
def aY:List (Option Ob)→List Nat→List (Option Ob)→List (Option Ob)
 | ob,k::K,a::l=>aY (ob.set k a) K l
 | ob,_,_=>ob
def cG:List Co→List Nat→List Co→List Co
 | cs,k::K,c::l=>cG (cs.set k c) K l
 | cs,_,_=>cs
def bL (K:List Nat):List (Option Ob):=K.map fun _=>none
def mA (n:Nat) (g:Nat→FV) (K:List Nat):List Operand→List FV→Prop
 | [],aa=>aa=[]
 | _::_,[]=>False
 | o::os,a::aa=>tB K a=some (lk n g o)∧mA n g K os aa
def Rg (x:Cx) (g:Nat→FV) (cf:Operand) (f:FuncId) (fst caps:List Tr):Prop:=∀ob cs ts W,RelC x g ob cs ts W→∃us0 us,Act.eval ⟨ts,[]⟩ cf=.func (.func f) us0.toArray us.toArray∧FRL W (x.fr W ob cs) fst us0∧FRL W (x.fr W ob cs) caps us
def Rh:Tr→FV
 | .a l=>.agg (l.map .t)
 | c=>.one (.t c)
def dC (caps:List Tr):List FV:=caps.map Rh
section
variable {x:Cx}{g g':Nat→FV}{ob ob':List (Option Ob)}{cs cs':List Co}{ts ts':Array Value}{W W':World}
theorem Id (f:FuncId):Rg x g (.func f) f [] []:=fun _ _ _ _ _=>⟨[],[],rfl,by simp[FRL],by simp[FRL]⟩
theorem Ie {cf:Operand}{f:FuncId}{fst caps:List Tr}(h:lk x.n g cf=.one (.t (.f f fst caps))):Rg x g cf f fst caps:=fun _ _ _ _ hR=>by
 have h1:=hR.lk cf
 rw[h]at h1
 simp only[aR,bB,AR,FR]at h1
 obtain⟨us0,us,e,h2⟩:=h1
 exact⟨us0,us,e,h2⟩
theorem Fp {N:Nat→Prop}:∀{l:List Tr}{us:List Value},FRL W N l us→ARL W N cs (l.map .t) us
 | [],us,h=>by simpa[FRL,ARL]using h
 | y::l,[],h=>by simp only[FRL]at h
 | y::l,u::us,h=>by
  simp only[FRL]at h
  simp only[List.map_cons,ARL,AR]
  exact⟨h.1,Fp h.2⟩
theorem dS:∀{K:List Nat}{l:List (Option Ob)}{ob:List (Option Ob)},(aY ob K l).length=ob.length
 | [],l,ob=>by simp[aY]
 | k::K,[],ob=>by simp[aY]
 | k::K,a::l,ob=>by simp[aY,dS (K:=K)]
theorem iK:∀{K:List Nat}{l:List Co}{cs:List Co},(cG cs K l).length=cs.length
 | [],l,cs=>by simp[cG]
 | k::K,[],cs=>by simp[cG]
 | k::K,a::l,cs=>by simp[cG,iK (K:=K)]
theorem eI:∀{K:List Nat}{l:List (Option Ob)}{ob:List (Option Ob)}{j:Nat},j∉K→(aY ob K l)[j]? =ob[j]?
 | [],l,ob,j,_=>by simp[aY]
 | k::K,[],ob,j,_=>by simp[aY]
 | k::K,a::l,ob,j,h=>by
  simp only[List.mem_cons,not_or]at h
  simp only[aY]
  rw[eI h.2,List.getElem?_set_ne (fun e=>h.1 e.symm)]
theorem jQ:∀{K:List Nat}{l:List Co}{cs:List Co}{j:Nat},j∉K→co (cG cs K l) j=co cs j
 | [],l,cs,j,_=>by simp[cG]
 | k::K,[],cs,j,_=>by simp[cG]
 | k::K,a::l,cs,j,h=>by
  simp only[List.mem_cons,not_or]at h
  simp only[cG]
  rw[jQ h.2]
  unfold co
  rw[List.getElem?_set_ne (fun e=>h.1 e.symm)]
theorem gR:∀{K:List Nat}{l:List (Option Ob)}{ob:List (Option Ob)}{i k:Nat},K.Nodup→l.length=K.length→K[i]? =some k→k<ob.length→(aY ob K l)[k]? =l[i]?
 | [],l,ob,i,k,_,_,h,_=>by simp at h
 | k0::K,[],ob,i,k,_,hl,_,_=>by simp at hl
 | k0::K,a::l,ob,0,k,hn,hl,h,hk=>by
  simp at h
  subst h
  have hn:=List.nodup_cons.1 hn
  simp only[aY]
  rw[eI hn.1,List.getElem?_set_self hk]
  rfl
 | k0::K,a::l,ob,i+1,k,hn,hl,h,hk=>by
  have hn:=List.nodup_cons.1 hn
  simp only[aY]
  exact gR hn.2 (by simpa using hl) (by simpa using h) (by simpa using hk)
theorem Fq:∀{K:List Nat}{l:List Co}{cs:List Co}{i k:Nat},K.Nodup→l.length=K.length→K[i]? =some k→k<cs.length→co (cG cs K l) k=co l i
 | [],l,cs,i,k,_,_,h,_=>by simp at h
 | k0::K,[],cs,i,k,_,hl,_,_=>by simp at hl
 | k0::K,a::l,cs,0,k,hn,hl,h,hk=>by
  simp at h
  subst h
  have hn:=List.nodup_cons.1 hn
  simp only[cG]
  rw[jQ hn.1]
  simp[co,List.getElem?_set_self hk]
 | k0::K,a::l,cs,i+1,k,hn,hl,h,hk=>by
  have hn:=List.nodup_cons.1 hn
  simp only[cG]
  rw[Fq hn.2 (by simpa using hl) (by simpa using h) (by simpa using hk)]
  simp[co]
theorem pE {K0:List Nat}:∀{K:List Nat}{l:List Lt},eG ob K0 K l→l.length=K.length
 | [],l,h=>by
  simp only[eG]at h
  simp[h]
 | k::K,[],h=>by simp only[eG]at h
 | k::K,a::l,h=>by
  simp only[eG]at h
  simp[pE h.2]
theorem fQ {K0:List Nat}:∀{K:List Nat}{l:List Lt}{i k:Nat},eG ob K0 K l→K[i]? =some k→∃(a:Lt) (l':List AV),l[i]? =some a∧renL K0 a.l=some l'∧ob[k]? =some (some ⟨a.t,a.z,l'⟩)
 | [],l,i,k,_,h=>by simp at h
 | k0::K,[],i,k,h,_=>by simp only[eG]at h
 | k0::K,a::l,0,k,h,hk=>by
  simp only[eG]at h
  simp at hk
  subst hk
  obtain⟨⟨l',h1,h2⟩,_⟩:=h
  exact⟨a,l',rfl,h1,cD h2⟩
 | k0::K,a::l,i+1,k,h,hk=>by
  simp only[eG]at h
  exact fQ (i:=i) h.2 (by simpa using hk)
theorem uQ {K0:List Nat}:∀{l:List Lt}{os:List (Option Ob)},dL K0 l os→os.length=l.length
 | [],l,h=>by
  simp only[dL]at h
  simp[h]
 | k::K,[],h=>by simp only[dL]at h
 | k::K,a::l,h=>by
  simp only[dL]at h
  simp[uQ h.2]
theorem pF {K0:List Nat}:∀{l:List Lt}{os:List (Option Ob)}{i:Nat}{a:Lt},dL K0 l os→l[i]? =some a→∃l',renL K0 a.l=some l'∧os[i]? =some (some ⟨a.t,a.z,l'⟩)
 | [],_,_,_,_,h=>by simp at h
 | b::l,[],_,_,h,_=>by simp only[dL]at h
 | b::l,o::os,0,a,h,ha=>by
  simp only[dL]at h
  simp at ha
  subst ha
  obtain⟨⟨l',h1,h2⟩,_⟩:=h
  exact⟨l',h1,by rw[h2];rfl⟩
 | b::l,o::os,i+1,a,h,ha=>by
  simp only[dL]at h
  obtain⟨l',h1,h2⟩:=pF (i:=i) h.2 (by simpa using ha)
  exact⟨l',h1,by simpa using h2⟩
def Bo (K:List Nat) (cl cs2:List Co):Prop:=∀i k,K[i]? =some k→k<cs2.length∧co cs2 k=co cl i
mutual
theorem Ri {K:List Nat}{N:Nat→Prop}{cl cs2:List Co}(hc:Bo K cl cs2):∀(a a':AV) (u:Value),eE K a=some a'→AR W N cl a u→AR W N cs2 a' u
 | .t y,a',u,h,hr=>by
  simp only[eE,Option.some.injEq]at h
  subst h
  simpa only[AR]using hr
 | .sl k o n,a',u,h,hr=>by
  simp only[eE]at h
  split at h
  ·rename_i t ht
   simp only[Option.some.injEq]at h
   subst h
   simp only[AR]at hr⊢
   rw[(hc k t ht).2]
   exact⟨(hc k t ht).1,hr.2⟩
  cases h
 | .pt k o,a',u,h,hr=>by
  simp only[eE]at h
  split at h
  ·rename_i t ht
   simp only[Option.some.injEq]at h
   subst h
   simp only[AR]at hr⊢
   rw[(hc k t ht).2]
   exact hr
  cases h
 | .ef l o,a',u,h,hr=>by
  simp only[eE,Option.some.injEq]at h
  subst h
  simpa only[AR]using hr
 | .fn f a b,a',u,h,hr=>by
  simp only[eE]at h
  split at h
  ·rename_i a1 b1 h1 h2
   simp only[Option.some.injEq]at h
   subst h
   simp only[AR]at hr⊢
   obtain⟨us,vs,e,r1,r2⟩:=hr
   exact⟨us,vs,e,ARL_to hc a a1 us h1 r1,ARL_to hc b b1 vs h2 r2⟩
  cases h
theorem ARL_to {K:List Nat}{N:Nat→Prop}{cl cs2:List Co}(hc:Bo K cl cs2):∀(l l':List AV) (us:List Value),renL K l=some l'→ARL W N cl l us→ARL W N cs2 l' us
 | [],l',us,h,hr=>by
  simp only[renL,Option.some.injEq]at h
  subst h
  simpa only[ARL]using hr
 | a::l,l',us,h,hr=>by
  simp only[renL]at h
  split at h
  ·rename_i a1 l1 h1 h2
   simp only[Option.some.injEq]at h
   subst h
   cases us with
   | nil=>simp only[ARL]at hr
   | cons u us=>
    simp only[ARL]at hr⊢
    exact⟨Ri hc a a1 u h1 hr.1,ARL_to hc l l1 us h2 hr.2⟩
  cases h
end
theorem Zd {N:Nat→Prop}{a:AV}{u:Value}(h:∀z,a≠.t z):CR W N cs a (.w u)↔AR W N cs a u:=by
 cases a with
 | t z=>exact absurd rfl (h z)
 | _=>simp only[CR]
theorem Ze {K:List Nat}{a a':AV}(h:eE K a=some a') (hn:∀z,a≠.t z):∀z,a'≠.t z:=by
 intro z e
 subst e
 cases a with
 | t z=>exact hn z rfl
 | ef l o=>simp[eE]at h
 | _=>
  simp only[eE]at h
  split at h <;> simp at h
theorem EB {K:List Nat}{N:Nat→Prop}{cl cs2:List Co}(hc:Bo K cl cs2){a a':AV}{y:VT}(h:eE K a=some a') (hr:CR W N cl a y):CR W N cs2 a' y:=by
 by_cases ht:∃z,a=.t z
 ·obtain⟨z,rfl⟩:=ht
  simp only[eE,Option.some.injEq]at h
  subst h
  simpa only[CR]using hr
 have hn:∀z,a≠.t z:=fun z e=>ht ⟨z,e⟩
 cases y with
 | w u=>exact(Zd (Ze h hn)).2 (Ri hc _ _ u h ((Zd hn).1 hr))
 | _=>
  cases a with
  | t z=>exact absurd rfl (hn z)
  | _=>simp only[CR]at hr
theorem Kx {K:List Nat}{N:Nat→Prop}{cl cs2:List Co}(hc:Bo K cl cs2):∀{l l':List AV}{ys:List VT},renL K l=some l'→aU W N cl l ys→aU W N cs2 l' ys
 | [],l',ys,h,hr=>by
  simp only[renL,Option.some.injEq]at h
  subst h
  simpa only[aU]using hr
 | a::l,l',ys,h,hr=>by
  simp only[renL]at h
  split at h
  ·rename_i a1 l1 h1 h2
   simp only[Option.some.injEq]at h
   subst h
   cases ys with
   | nil=>simp only[aU]at hr
   | cons y ys=>
    simp only[aU]at hr⊢
    exact⟨EB hc h1 hr.1,Kx hc h2 hr.2⟩
  cases h
theorem tJ {K:List Nat}{l l':List AV}(h:renL K l=some l'):l=[]↔l'=[]:=by
 cases l with
 | nil=>
  simp only[renL,Option.some.injEq]at h
  simp[←h]
 | cons a l=>
  simp only[renL]at h
  split at h
  ·simp only[Option.some.injEq]at h
   simp[←h]
  cases h
theorem sA (b:Nat):∀{K:List Nat}{l:List (Option Ob)}{lc:List Co}{ob:List (Option Ob)}{cs:List Co},K.Nodup→l.length=K.length→lc.length=K.length→ob.length=cs.length→(∀k∈K,k<ob.length)→
  (bP (aY ob K l) (cG cs K lc)).count b=(bP (aY ob K (bL K)) cs).count b+((aC l lc).flatMap Res.S).count b
 | [],l,lc,ob,cs,_,h1,h2,_,_=>by
  obtain rfl:=List.eq_nil_of_length_eq_zero h1
  obtain rfl:=List.eq_nil_of_length_eq_zero h2
  simp[aY,cG,bL,aC]
 | k::K,[],lc,ob,cs,_,h1,h2,_,_=>by simp at h1
 | k::K,a::l,[],ob,cs,_,h1,h2,_,_=>by simp at h2
 | k::K,a::l,c::lc,ob,cs,hn,h1,h2,h3,h4=>by
  have hn':=List.nodup_cons.1 hn
  have hk:=h4 k (by simp)
  have ih1:=sA b (K:=K) (l:=l) (lc:=lc) (ob:=ob.set k a) (cs:=cs.set k c) hn'.2 (by simpa using h1) (by simpa using h2) (by simpa using h3) (fun j hj=>by simpa using h4 j (List.mem_cons_of_mem _ hj))
  have e1:bL (k::K)=none::bL K:=rfl
  simp only[aY,cG,e1,aC,List.zipWith_cons_cons,List.flatMap_cons,List.count_append]
  unfold aC at ih1
  rw[ih1]
  -- the k-th of the others
  have e2:aY (ob.set k none) K (bL K)=(aY (ob.set k a) K (bL K)).set k none:=by
   apply List.ext_getElem?
   intro j
   by_cases hj:j∈K
   ·obtain⟨i,hi⟩:=List.mem_iff_getElem?.1 hj
    have hkj:k≠j:=fun e=>hn'.1 (e▸hj)
    rw[List.getElem?_set_ne hkj,gR hn'.2 (by simp[bL]) hi (by simpa using h4 j (List.mem_cons_of_mem _ hj)),gR hn'.2 (by simp[bL]) hi (by simpa using h4 j (List.mem_cons_of_mem _ hj))]
   rw[eI hj]
   by_cases hkj:k=j
   ·subst hkj
    rw[List.getElem?_set_self hk,List.getElem?_set_self (by rw[dS];simpa using hk)]
   rw[List.getElem?_set_ne hkj,List.getElem?_set_ne hkj,eI hj,List.getElem?_set_ne hkj]
  have e3:(aY (ob.set k a) K (bL K))[k]? =some a:=by rw[eI hn'.1,List.getElem?_set_self hk]
  have hck:co (cs.set k c) k=c:=by simp[co,List.getElem?_set_self (show k<cs.length by omega)]
  have hl0:(aY (ob.set k a) K (bL K)).length=(cs.set k c).length:=by rw[dS];simpa using h3
  have h5:=wM (r':=aF none (co cs k)) (aT hl0 e3) b
  rw[hck]at h5
  have e4:(aC (aY (ob.set k a) K (bL K)) (cs.set k c)).set k (aF none (co cs k))=aC (aY (ob.set k none) K (bL K)) cs:=by
   rw[e2,←jO]
   congr 1
   rw[List.set_set,nU (by omega)]
  have h6:(aF none (co cs k)).S=[]:=by cases hb:(co cs k).b <;> simp[aF]
  rw[e4,h6,List.count_nil]at h5
  unfold bP aC
  unfold aC at h5
  omega
theorem iF {K:List Nat}(hn:K.Nodup) (hl:ob.length=cs.length) (hK:∀k∈K,k<ob.length){r:Res}(h:r∈aC (aY ob K (bL K)) cs):r∈aC ob cs∨r.S=[]∧∀W,r.φ W:=by
 obtain⟨j,hj⟩:=List.mem_iff_getElem?.1 h
 by_cases hjK:j∈K
 ·obtain⟨i,hi⟩:=List.mem_iff_getElem?.1 hjK
  have h1:=gR (l:=bL K) hn (by simp[bL]) hi (hK j hjK)
  have h2:(bL K)[i]? =some none:=by simp[bL,hi]
  rw[h2]at h1
  rw[aT (by rw[dS];exact hl) h1]at hj
  injection hj with hj
  subst hj
  refine .inr ⟨?_,fun W=>?_⟩ <;> cases hb:(co cs j).b <;> simp[aF]
 left
 have h1:=eI (l:=bL K) (ob:=ob) hjK
 cases h2:ob[j]? with
 | none=>
  rw[h2]at h1
  have:¬j<(aY ob K (bL K)).length:=fun h=>by simp[h]at h1
  have h3:=(List.getElem?_eq_some_iff.1 hj).1
  rw[dR (by rw[dS];exact hl)]at h3
  rw[dS]at this
  omega
 | some o=>
  rw[h2]at h1
  rw[aT (by rw[dS];exact hl) h1]at hj
  injection hj with hj
  subst hj
  exact List.mem_of_getElem? (aT hl h2)
theorem Bp {K:List Nat}{N':Nat→Prop}(hR:RelC x g ob cs ts W) (hN:∀b,x.fr W ob cs b→N' b):∀{os:List Operand}{aa:List FV},mA x.n g K os aa→cA W N' (K.map (co cs)) aa (os.map (Act.eval ⟨ts,[]⟩))
 | [],aa,h=>by
  simp only[mA]at h
  simp[h,cA]
 | o::os,[],h=>by simp only[mA]at h
 | o::os,a::aa,h=>by
  simp only[mA]at h
  simp only[List.map_cons,cA]
  refine⟨?_,Bp hR hN h.2⟩
  have:=Ez hN h.1 (hR.lk o)
  cases a with
  | tup l=>simp[tB]at h
  | _=>exact this
theorem nX {N:Nat→Prop}:∀{l l':List FV}{us us':List Value},cA W N cs l us→cA W N cs l' us'→cA W N cs (l++l') (us++us')
 | [],l',us,us',h,h'=>by
  simp only[cA]at h
  subst h
  simpa using h'
 | a::l,l',u::us,us',h,h'=>by
  simp only[cA]at h
  simp only[List.cons_append,cA]
  exact⟨h.1,nX h.2 h'⟩
 | _::_,_,[],_,h,_=>by simp only[cA]at h
theorem mB {N N':Nat→Prop}(hN:∀b,N b→N' b):∀{caps:List Tr}{us:List Value},FRL W N caps us→cA W N' cs (dC caps) us
 | [],us,h=>by
  simp only[FRL]at h
  simp[h,dC,cA]
 | c::caps,[],h=>by simp only[FRL]at h
 | c::caps,u::us,h=>by
  simp only[FRL]at h
  simp only[dC,List.map_cons,cA]
  refine⟨?_,mB hN h.2⟩
  have h1:=eZ (W':=W) (fun _ _=>rfl) hN _ _ h.1
  cases c with
  | a l=>
   simp only[FR]at h1
   obtain⟨us,e,h2⟩:=h1
   exact⟨us,e,Fp h2⟩
  | _=>simpa only[Rh,bB,AR]using h1
theorem If {fresh:Bool}{f:FuncId}{args:List FV}{R:List Lt→FV→Prop}{lent:List Lt}{K:List Nat}{os:List Operand}{fst caps:List Tr}{fus cus:List Value}(hS:aE fresh x.P f lent (dC fst++args++dC caps) R) (hK:eG ob K K lent) (hnd:K.Nodup) (ha:mA x.n g K os args) (hfst:FRL W (x.fr W ob cs) fst fus) (hcap:FRL W (x.fr W ob cs) caps cus) (hR:RelC x g ob cs ts W):
  Calls x.P f (fus++os.map (Act.eval ⟨ts,[]⟩)++cus).toArray W (fun e W'=>∃v lent' r ys cl N2,e=.returned v∧R lent' r∧lent'.length=K.length∧cl.length=K.length∧RO W' N2 cl r v ys∧VT.okL W' ys∧(VT.fpL ys).Nodup∧
   ∀(ok:List (Option Ob)),dL K lent' ok→∀(oz:List Ob) (csn:List Co),csn.length=oz.length→(∀b,((aC (oz.map some) csn).flatMap Res.S).count b≤(VT.fpL ys).count b)→(∀r∈aC (oz.map some) csn,r.φ W')→
    (∀b,N2 b→x.fr W' (aY ob K ok++oz.map some) (cG cs K cl++csn) b)∧
    ((∀i o,oz[i]? =some o→aU W' (x.fr W' (aY ob K ok++oz.map some) (cG cs K cl++csn)) (cG cs K cl++csn) o.l (co csn i).l∧((co csn i).b=none→o.l=[]∧o.z≠0))→
     RelC x g (aY ob K ok++oz.map some) (cG cs K cl++csn) ts W'∧∀d,Aft K d ob cs ts W (aY ob K ok++oz.map some) (cG cs K cl++csn) ts W')):=by
 have hlen:=hR.len
 have hll:=pE hK
 have hKl:∀k∈K,k<ob.length:=fun k hk=>by
  obtain⟨i,hi⟩:=List.mem_iff_getElem?.1 hk
  obtain⟨a,l',_,_,h2⟩:=fQ hK hi
  exact(List.getElem?_eq_some_iff.1 h2).1
 have hlobs:(aL lent).length=K.length:=by rw[fP,hll]
 have hput0:aC (aY ob K (aL lent)) cs=aC ob cs:=by
  have hl0:(aY ob K (aL lent)).length=cs.length:=by rw[dS];exact hlen
  apply List.ext_getElem?
  intro j
  by_cases hjl:j<ob.length
  ·by_cases hj:j∈K
   ·obtain⟨i,hi⟩:=List.mem_iff_getElem?.1 hj
    obtain⟨a,l',h1,_,h2⟩:=fQ hK hi
    have h3:=gR hnd hlobs hi hjl
    rw[dW,h1]at h3
    rw[aT hl0 h3,aT hlen h2]
    exact congrArg some (gG _ _)
   have h3:=eI (l:=aL lent) (ob:=ob) hj
   rw[List.getElem?_eq_getElem hjl]at h3
   rw[aT hl0 h3,aT hlen (List.getElem?_eq_getElem hjl)]
  rw[List.getElem?_eq_none (by rw[dR hl0];omega),List.getElem?_eq_none (by rw[dR hlen];omega)]
 have hputc:cG cs K (K.map (co cs))=cs:=by
  have key:∀(K:List Nat),(∀k∈K,k<cs.length)→cG cs K (K.map (co cs))=cs:=by
   intro K
   induction K with
   | nil=>intro _;rfl
   | cons k K ih=>
    intro h
    simp only[List.map_cons,cG]
    rw[nU (h k (by simp))]
    exact ih fun j hj=>h j (List.mem_cons_of_mem _ hj)
  exact key K fun k hk=>by rw[←hlen];exact hKl k hk
 have hcnt0:=fun b=>sA b (l:=aL lent) (lc:=K.map (co cs)) (cs:=cs) hnd hlobs (by simp) hlen hKl
 unfold bP at hcnt0
 rw[hputc,hput0]at hcnt0
 have hfr0:∀b,x.fr W ob cs b→iQ W (aC (aL lent) (K.map (co cs))) b:=fun b hb=>And.intro hb.1.1 fun hm=>hb.1.2 (by
  have h1:=List.count_pos_iff.2 hm
  have h2:=hcnt0 b
  exact List.count_pos_iff.1 (show 0<((aC ob cs).flatMap Res.S).count b by omega))
 have hgetL:∀i k,K[i]? =some k→∃(a:Lt) (l':List AV),lent[i]? =some a∧renL K a.l=some l'∧ob[k]? =some (some (⟨a.t,a.z,l'⟩:Ob)):=fun i k hi=>fQ hK hi
 have hφ0:∀r∈aC (aL lent) (K.map (co cs)),r.φ W:=fun r hr=>by
  obtain⟨i,hi⟩:=List.mem_iff_getElem?.1 hr
  have hil:=(List.getElem?_eq_some_iff.1 hi).1
  have hil2:i<K.length:=by
   rw[dR (by simp[hlobs])]at hil
   simpa using hil
  obtain⟨a,l',h1,_,h2⟩:=hgetL i K[i] (List.getElem?_eq_getElem hil2)
  have e1:(aL lent)[i]? =some (some a.ob):=by rw[dW,h1];rfl
  rw[aT (by simp[hlobs]) e1,gE (List.getElem?_eq_getElem hil2)]at hi
  injection hi with hi
  subst hi
  rw[show aF (some a.ob) (co cs K[i])=aF (some ⟨a.t,a.z,l'⟩) (co cs K[i]) from gG _ _]
  exact hR.res h2
 have h1:Loc x.M x.w W (aC (aL lent) (K.map (co cs))++aC (aY ob K (bL K)) cs) []:=(hR.2.pickS []).cut (fun b=>by
  rw[List.flatMap_append,List.count_append]
  have:=hcnt0 b
  omega) (fun r hr=>by
  rcases List.mem_append.1 hr with hr | hr
  ·exact hφ0 r hr
  rcases iF hnd hlen hKl hr with hr | hr
  ·exact hR.2.res r hr
  exact hr.2 W)
 have h2:Loc ((aC (aL lent) (K.map (co cs))).flatMap Res.S) W W (aC (aL lent) (K.map (co cs))) [(Ks lent (K.map (co cs)) (dC fst++args++dC caps) (fus++os.map (Act.eval ⟨ts,[]⟩)++cus)).on (x.fr W ob cs)]:=by
  refine h1.focus.read _ ⟨⟨by simp[hlobs],fun k o hk=>?_⟩,nX (nX (mB (fun b hb=>⟨hfr0 b hb,hb⟩) hfst) (Bp hR (fun b hb=>⟨hfr0 b hb,hb⟩) ha)) (mB (fun b hb=>⟨hfr0 b hb,hb⟩) hcap)⟩
  rw[dW]at hk
  cases hq:lent[k]? with
  | none=>rw[hq]at hk;cases hk
  | some a=>
   rw[hq]at hk
   simp at hk
   subst hk
   have hkK:k<K.length:=by rw[←hll];exact(List.getElem?_eq_some_iff.1 hq).1
   obtain⟨a',l',q1,q0,q2⟩:=hgetL k K[k] (List.getElem?_eq_getElem hkK)
   rw[hq]at q1
   injection q1 with q1
   subst q1
   have q3:=hR.obs.2 _ _ q2
   rw[gE (List.getElem?_eq_getElem hkK)]
   exact⟨rX (fun b hb=>⟨hfr0 b hb,hb⟩) q0 q3.1,fun h=>⟨(tJ q0).2 (q3.2 h).1,(q3.2 h).2⟩⟩
 refine(hS _ W _ _ h2).mono fun e W' hE=>?_
 obtain⟨v,lent',cl,r,ys,rfl,hr,hl',hty,hcl,hsame,h3⟩:=hE
 have h4:=Loc.turn h1 h3
 have hsh:=Sh.off (h3.sh 0 rfl)
 have hcl':cl.length=K.length:=by simpa using hcl
 have hlK:lent'.length=K.length:=by rw[hl',hll]
 refine⟨v,lent',r,ys,cl,_,rfl,hr,hlK,hcl',hsh.2,h3.res (dO ys) (by simp),?_,fun ok hbk oz csn hlz hcz hφz=>?_⟩
 ·have:=h3.nd
  rw[List.flatMap_append,List.nodup_append]at this
  simpa[dO]using this.2.1
 have hlob':ok.length=K.length:=by rw[uQ hbk,hlK]
 have hrk:aC ok cl=aC (aL lent') cl:=by
  apply List.ext_getElem?
  intro j
  by_cases hj:j<lent'.length
  ·obtain⟨l',q1,q2⟩:=pF hbk (List.getElem?_eq_getElem hj)
   rw[aT (by rw[hlob',hcl']) q2,aT (ob:=aL lent') (by rw[fP,hlK,hcl']) (o:=some (lent'[j]).ob) (by rw[dW,List.getElem?_eq_getElem hj];rfl)]
   exact congrArg some (gG _ _)
  rw[List.getElem?_eq_none (by rw[dR (by rw[hlob',hcl'])];omega),List.getElem?_eq_none (by rw[dR (by rw[fP,hlK,hcl'])];omega)]
 have hlen2:(aY ob K ok).length=(cG cs K cl).length:=by rw[dS,iK];exact hlen
 have hrs:aC (aY ob K ok++oz.map some) (cG cs K cl++csn)=aC (aY ob K ok) (cG cs K cl)++aC (oz.map some) csn:=by
  unfold aC
  rw[List.zipWith_append hlen2]
 have hcnt2:∀b,(bP (aY ob K ok++oz.map some) (cG cs K cl++csn)).count b≤(((aC (aL lent') cl++[dO ys])++aC (aY ob K (bL K)) cs).flatMap Res.S).count b:=fun b=>by
  have q1:=sA b (l:=ok) (lc:=cl) (cs:=cs) hnd hlob' hcl' hlen hKl
  rw[hrk]at q1
  have q2:=hcz b
  unfold bP at q1⊢
  rw[hrs,List.flatMap_append,List.count_append,List.flatMap_append,List.count_append,List.flatMap_append,List.count_append,List.flatMap_cons,List.flatMap_nil,List.append_nil]
  have q3:(dO ys).S=VT.fpL ys:=rfl
  rw[q3]
  omega
 have hin2:∀b,b∈bP (aY ob K ok++oz.map some) (cG cs K cl++csn)→b∈((aC (aL lent') cl++[dO ys])++aC (aY ob K (bL K)) cs).flatMap Res.S:=fun b hb=>List.count_pos_iff.1 (Nat.lt_of_lt_of_le (List.count_pos_iff.2 hb) (hcnt2 b))
 have hrest:∀b,b∈(aC (aY ob K (bL K)) cs).flatMap Res.S→b∈bP ob cs:=fun b hb=>by
  obtain⟨r,hr,hb⟩:=List.mem_flatMap.1 hb
  rcases iF hnd hlen hKl hr with hr | hr
  ·exact List.mem_flatMap.2 ⟨r,hr,hb⟩
  rw[hr.1]at hb
  cases hb
 have hlentS:∀b,b∈(aC (aL lent) (K.map (co cs))).flatMap Res.S→b∈bP ob cs:=fun b hb=>by
  have q1:=List.count_pos_iff.2 hb
  have q2:=hcnt0 b
  exact List.count_pos_iff.1 (show 0<((aC ob cs).flatMap Res.S).count b by omega)
 have hfree:∀b,iQ W' (aC (aL lent') cl++[dO ys]) b→(x.fr W ob cs b∨b∈(aC (aL lent) (K.map (co cs))).flatMap Res.S∨W.heap.size≤b)→x.fr W' (aY ob K ok++oz.map some) (cG cs K cl++csn) b:=fun b hb hb'=>by
  refine⟨⟨hb.1,fun hm=>?_⟩,?_⟩
  ·have hm:=hin2 b hm
   rw[List.flatMap_append,List.mem_append]at hm
   rcases hm with hm | hm
   ·exact hb.2 hm
   have hm2:=hrest b hm
   rcases hb' with hb' | hb' | hb'
   ·exact hb'.1.2 hm2
   ·have q1:=hcnt0 b
    have q2:=List.nodup_iff_count.1 hR.2.nd b
    have q3:=List.count_pos_iff.2 hb'
    have q4:=List.count_pos_iff.2 hm
    unfold bP at q1
    omega
   have:=(hR.2.blk b hm2).2
   omega
  rcases hb' with hb' | hb' | hb'
  ·exact hb'.2
  ·exact .inr (hR.2.blk b (hlentS b hb')).1
  exact .inr (.inr (Nat.le_trans hR.2.chg.size hb'))
 have hsize:W.heap.size≤W'.heap.size:=h3.chg.size
 have hfr:∀b,x.fr W ob cs b→x.fr W' (aY ob K ok++oz.map some) (cG cs K cl++csn) b:=fun b hb=>by
  refine hfree b ⟨Nat.lt_of_lt_of_le hb.1.1 hsize,fun hm=>?_⟩ (.inl hb)
  have q1:=h3.blk b hm
  rcases q1.1 with q1 | q1
  ·exact hb.1.2 (hlentS b q1)
  have:=hb.1.1
  omega
 have hkeep:∀b,x.fr W ob cs b→W'.heap[b]? =W.heap[b]? :=fun b hb=>h3.chg.block b hb.1.1 (fun hm=>hb.1.2 (hlentS b hm))
 refine⟨fun b hb=>hfree b hb.2.1 hb.2.2,fun hoz=>?_⟩
 have hcoK:∀i k,K[i]? =some k→co (cG cs K cl) k=co cl i:=fun i k hi=>Fq hnd hcl' hi (by rw[←hlen];exact hKl k (List.mem_of_getElem? hi))
 have hsame2:Same cs (cG cs K cl):=⟨by rw[iK];exact Nat.le_refl _,fun k hk=>by
  by_cases hkK:k∈K
  ·obtain⟨i,hi⟩:=List.mem_iff_getElem?.1 hkK
   have:=hsame.2 i (by simpa using(List.getElem?_eq_some_iff.1 hi).1)
   rw[gE hi]at this
   rw[hcoK i k hi]
   exact this
  rw[jQ hkK]
  exact⟨rfl,rfl⟩⟩
 have happ:∀{k},k<(cG cs K cl).length→co (cG cs K cl++csn) k=co (cG cs K cl) k:=fun hk=>by simp[co,List.getElem?_append_left hk]
 have hsame3:Same cs (cG cs K cl++csn):=hsame2.trans ⟨by simp,fun k hk=>by rw[happ hk];exact⟨rfl,rfl⟩⟩
 have hLf:Loc x.M x.w W' (aC (aY ob K ok++oz.map some) (cG cs K cl++csn)) []:=h4.cut hcnt2 (fun r hr=>by
  rw[hrs]at hr
  rcases List.mem_append.1 hr with hr | hr
  ·obtain⟨j,hj⟩:=List.mem_iff_getElem?.1 hr
   have hjl:=(List.getElem?_eq_some_iff.1 hj).1
   rw[dR hlen2,iK,←hlen]at hjl
   by_cases hjK:j∈K
   ·obtain⟨i,hi⟩:=List.mem_iff_getElem?.1 hjK
    have q1:=gR hnd hlob' hi (hKl j hjK)
    have q2:i<ok.length:=by rw[hlob'];exact(List.getElem?_eq_some_iff.1 hi).1
    rw[List.getElem?_eq_getElem q2]at q1
    rw[aT hlen2 q1,hcoK i j hi]at hj
    injection hj with hj
    subst hj
    refine h3.res _ (List.mem_append_left _ (by rw[←hrk];exact List.mem_of_getElem? (aT (by rw[hlob',hcl']) (List.getElem?_eq_getElem q2))))
   have q1:(aY ob K ok)[j]? =ob[j]? :=eI hjK
   rw[List.getElem?_eq_getElem hjl]at q1
   rw[aT hlen2 q1,jQ hjK]at hj
   injection hj with hj
   subst hj
   have q2:(aY ob K (bL K))[j]? =ob[j]? :=eI hjK
   rw[List.getElem?_eq_getElem hjl]at q2
   exact h4.res _ (List.mem_append_right _ (List.mem_of_getElem? (aT (by rw[dS];exact hlen) q2)))
  exact hφz r hr)
 refine⟨.of hR.1 hLf ⟨by rw[List.length_append,List.length_append,hlen2,List.length_map,hlz],fun k o hk=>?_⟩ (fun i hi=>?_) (hR.3.trans hsame3),fun d=>⟨hsame3,fun k hk hkc=>?_,hsize,fun b hlt hb=>?_,fun b hb=>?_,fun _ _=>rfl⟩⟩
 ·rcases Nat.lt_or_ge k (aY ob K ok).length with hlt | hge
  ·rw[List.getElem?_append_left hlt]at hk
   rw[happ (by rw[←hlen2];exact hlt)]
   rw[dS]at hlt
   by_cases hkK:k∈K
   ·obtain⟨i,hi⟩:=List.mem_iff_getElem?.1 hkK
    rw[gR hnd hlob' hi hlt]at hk
    have hil:i<lent'.length:=by rw[hlK];exact(List.getElem?_eq_some_iff.1 hi).1
    obtain⟨l',q0,q2⟩:=pF hbk (List.getElem?_eq_getElem hil)
    rw[q2]at hk
    injection hk with hk
    injection hk with hk
    subst hk
    have q1:=hsh.1.2 i (lent'[i]).ob (by rw[dW,List.getElem?_eq_getElem hil];rfl)
    rw[hcoK i k hi]
    have q3:Bo K cl (cG cs K cl++csn):=fun i k hi=>by
     have hkl:=hKl k (List.mem_of_getElem? hi)
     have hkp:k<(cG cs K cl).length:=by rw[iK,←hlen];exact hkl
     exact⟨by rw[List.length_append];omega,by rw[happ hkp,hcoK i k hi]⟩
    exact⟨bZ (fun _ _=>rfl) (fun b hb=>hfree b hb.2.1 hb.2.2) .refl _ _ (Kx q3 q0 q1.1),fun h=>⟨(tJ q0).1 (q1.2 h).1,(q1.2 h).2⟩⟩
   rw[eI hkK]at hk
   rw[jQ hkK]
   have q1:=hR.obs.2 k o hk
   exact⟨bZ hkeep hfr hsame3 _ _ q1.1,q1.2⟩
  rw[List.getElem?_append_right hge]at hk
  have ho:oz[k-(aY ob K ok).length]? =some o:=by
   rw[List.getElem?_map]at hk
   cases hq:oz[k-(aY ob K ok).length]? with
   | none=>rw[hq]at hk;cases hk
   | some o'=>
    rw[hq]at hk
    simp at hk
    rw[hk]
  have q1:=hoz _ o ho
  have e:co (cG cs K cl++csn) k=co csn (k-(aY ob K ok).length):=by
   unfold co
   rw[List.getElem?_append_right (by rw[←hlen2];exact hge),hlen2]
  rw[e]
  exact q1
 ·obtain⟨u,q1,q2⟩:=hR.fv hi
  exact⟨u,q1,dH hkeep hfr hsame3 _ _ q2⟩
 ·rw[happ (by rw[iK];exact hkc),jQ hk]
 ·refine h3.chg.block b hlt fun hm=>?_
  obtain⟨r,hr,hbr⟩:=List.mem_flatMap.1 hm
  obtain⟨i,hi⟩:=List.mem_iff_getElem?.1 hr
  have hil:=(List.getElem?_eq_some_iff.1 hi).1
  have hil2:i<K.length:=by
   rw[dR (by simp[hlobs])]at hil
   simpa using hil
  obtain⟨a,l',q1,_,q2⟩:=hgetL i K[i] (List.getElem?_eq_getElem hil2)
  have e1:(aL lent)[i]? =some (some a.ob):=by rw[dW,q1];rfl
  rw[aT (by simp[hlobs]) e1,gE (List.getElem?_eq_getElem hil2)]at hi
  injection hi with hi
  subst hi
  rw[show aF (some a.ob) (co cs K[i])=aF (some ⟨a.t,a.z,l'⟩) (co cs K[i]) from gG _ _]at hbr
  exact hb K[i] (List.getElem_mem hil2) _ q2 hbr
 have q1:=hin2 b hb
 rw[List.flatMap_append,List.mem_append]at q1
 rcases q1 with q1 | q1
 ·rcases(h3.blk b q1).1 with q2 | q2
  ·exact .inl (hlentS b q2)
  exact .inr q2
 exact .inl (hrest b q1)
end
theorem Bq {k:Nat}{a:AV}(h:(wQ k a).isSome=true):∃y,a=.t y:=by
 cases a with
 | t y=>exact⟨y,rfl⟩
 | _=>simp[wQ]at h
theorem Br {W:World}{N:Nat→Prop}{cs:List Co}:∀{l:List AV}{k:Nat}{r:List AV×List Ob}{ys:List VT},kW k l=some r→aU W N cs l ys→aU W N [] l ys
 | [],_,_,ys,_,h=>by simpa[aU]using h
 | a::l,k,r,[],_,h=>by simp only[aU]at h
 | a::l,k,r,y::ys,hb,h=>by
  simp only[aU]at h⊢
  unfold kW at hb
  split at hb
  ·rename_i a' ha
   split at hb
   ·rename_i l' os hl
    obtain⟨z,rfl⟩:=Bq (k:=k) (by rw[ha];rfl)
    exact⟨h.1,Br hl h.2⟩
   cases hb
  ·rename_i a' o r' ha
   split at hb
   ·rename_i l' os hl
    obtain⟨z,rfl⟩:=Bq (k:=k) (by rw[ha];rfl)
    exact⟨h.1,Br hl h.2⟩
   cases hb
  cases hb
theorem Bs {W:World}{N:Nat→Prop}{cs:List Co}{k:Nat}{r:FV}{b:FV×List Ob}{u:Value}{ys:List VT}(hb:qV k r=some b) (h:pW W N cs r u ys):pW W N [] r u ys:=by
 cases r with
 | any=>exact h.elim
 | tup l=>exact h.elim
 | one a=>
  unfold qV at hb
  dsimp only at hb
  split at hb
  ·rename_i a' os ha
   obtain⟨z,rfl⟩:=Bq (k:=k) (by rw[ha];rfl)
   exact h
  cases hb
 | agg l=>
  unfold qV at hb
  dsimp only at hb
  split at hb
  ·rename_i l' os hl
   exact⟨h.1,Br hl h.2⟩
  cases hb
theorem Ky {W:World}{N:Nat→Prop}{cs:List Co}:∀{l:List FV}{k:Nat}{b:List FV×List Ob}{us:List Value}{ys:List VT},tI k l=some b→qQ W N cs l us ys→qQ W N [] l us ys
 | [],_,_,us,ys,_,h=>h
 | a::l,k,b,us,ys,hb,⟨v,vs,y1,y2,h1,h2,h3,h4⟩=>by
  unfold tI at hb
  split at hb
  ·rename_i a' os ha
   split at hb
   ·rename_i l' os' hl
    exact⟨v,vs,y1,y2,h1,h2,Bs ha h3,Ky hl h4⟩
   cases hb
  cases hb
theorem Rj {W:World}{N:Nat→Prop}{cs:List Co}{k:Nat}{r:FV}{b:FV×List Ob}{u:Value}{ys:List VT}(hb:iL k r=some b) (h:RO W N cs r u ys):RO W N [] r u ys:=by
 cases r with
 | tup l=>
  obtain⟨vs,e,h⟩:=h
  unfold iL at hb
  dsimp only at hb
  split at hb
  ·rename_i l' os hl
   exact⟨vs,e,Ky hl h⟩
  cases hb
 | any=>exact h.elim
 | one a=>exact Bs (r:=.one a) hb h
 | agg l=>exact Bs (r:=.agg l) hb h
section
variable {x:Cx}{g g':Nat→FV}{ob ob':List (Option Ob)}{cs cs':List Co}{ts ts':Array Value}{W W':World}{T:List (Nat×TI)}{Q:Post}{ops:Array Oper}{rest:List Oper}{d:Nat}{op:Op}{ty:TypeId}{pos:String}{af:Array Edge}{gd:Option (Nat×Bool)}
theorem yB {cf:Operand}{f:FuncId}{us0 us:List Value}{aa:Array Operand}{ats:Array TypeId}(hf:CallOk x.P f) (e0:Act.eval ⟨ts,[]⟩ cf=.func (.func f) us0.toArray us.toArray):
  (execOp (Act.eval ⟨ts,[]⟩) ⟨some d,.call ⟨.value cf,aa,ats⟩,ty,pos,af,gd⟩).run x.P W=.ok (.enter f (us0++aa.toList.map (Act.eval ⟨ts,[]⟩)++us).toArray) W:=by
 obtain⟨fn,c,h1,h2,h3⟩:=hf
 have e1:aa.map (Act.eval ⟨ts,[]⟩)=(aa.toList.map (Act.eval ⟨ts,[]⟩)).toArray:=by apply Array.ext';simp only[Array.toList_map]
 simp[execOp,resolve,e0,Deferred.ofValue,invoke,e1,callFunc,h1,h3]
 intro hn
 rw[hn]at h2
 simp at h2
theorem pG {fresh:Bool}{f:FuncId}{args:List FV}{R:List Lt→FV→Prop}{lent:List Lt}{K:List Nat}{aa:Array Operand}{ats:Array TypeId}{cf:Operand}{fst caps:List Tr}{key:Nat}(hS:aE fresh x.P f lent (dC fst++args++dC caps) R) (hf:CallOk x.P f) (hc:Rg x g cf f fst caps) (hK:eG ob K K lent) (hnd:K.Nodup) (ha:mA x.n g K aa.toList args) (hk:dF ob key=true) (hb:∀l r,R l r→l.length=K.length→(iL key r).isSome=true∧∃ok,dL K l ok):
  OS x ⟨some d,.call ⟨.value cf,aa,ats⟩,ty,pos,af,gd⟩ g ob K (fun g' ob'=>∃l r v os ok,R l r∧l.length=K.length∧iL key r=some (v,os)∧dL K l ok∧g'=aM g d v∧ob'=aY ob K ok++os.map some):=by
 intro cs ts W hR K' Q kk
 obtain⟨us0,us,e0,hfst,hcap⟩:=hc ob cs ts W hR
 unfold Oper.wp
 rw[yB hf e0]
 refine(If hS hK hnd ha hfst hcap hR).mono fun e W' hE=>?_
 obtain⟨v,lent',r,ys,cl,N2,rfl,hr,hl1,hl2,hro,hok,hndy,fin⟩:=hE
 obtain⟨hb1,ok,hbk⟩:=hb _ r hr hl1
 obtain⟨⟨v',os⟩,hbn⟩:=Option.isSome_iff_exists.1 hb1
 obtain⟨csn,e1,e2,e3,e4⟩:=Bk (Rj hbn hro) hok hbn
 obtain⟨hN,hfin⟩:=fin ok hbk os csn e1 (fun b=>by rw[e2];exact Nat.le_refl _) e3
 have hk:=Nat.eq_of_beq_eq_true hk
 have hpl:(cG cs K cl).length=key:=by rw[iK,←hR.len,hk]
 obtain⟨g1,g2⟩:=e4 _ (cG cs K cl++csn) hN (by simp[hpl,e1]) (fun i _=>by
  unfold co
  rw[List.getElem?_append_right (by omega),hpl,show key+i-key=i by omega])
 obtain⟨m1,m2⟩:=hfin g2
 exact kk _ _ _ _ _ ⟨lent',r,v',os,ok,hr,hl1,hbn,hbk,rfl,rfl⟩ (m1.put d g1) ((m2 (some d)).then_put v)
theorem EC {late:Nat→Bool}{K fr:List Nat}{fuel:Nat}{listed:Array Bool}{o:Oper}{Wr:List Nat}{R:(Nat→FV)→List (Option Ob)→Prop}(i:Nat) (hi:ops[i]? =some o) (hd:o.dst=some d) (hw:aO ops x.n g o.guard=some true) (h:OS x o g ob Wr R) (hW:∀k∈K,k∉Wr)
  (hg:∀g' ob',R g' ob'→(∃v,g'=aM g d v)∧∀k∈K,ob'[k]? =ob[k]?) (k:∀g' ob',R g' ob'→WD x ops Q late K (d::fr) true fuel (listed.setIfInBounds i true) g' ob'):WO x ops Q late K fr true fuel listed i g ob:=by
 refine Qv i hi hw h true (fun _=>⟨rfl,hW⟩) (fun _=>rfl) (fun _ g' ob' hR=>?_) fun g' ob' hR=>by rw[hd];exact k g' ob' hR
 obtain⟨⟨v,h1⟩,h2⟩:=hg g' ob' hR
 exact⟨by rw[hd,h1];exact uN,h2⟩
theorem Ig {late:Nat→Bool}{K fr:List Nat}{fuel:Nat}{listed:Array Bool}{o:Oper}{Wr:List Nat}{R:(Nat→FV)→List (Option Ob)→Prop}(i:Nat) (hr:Region.ready .any ops listed=[i]) (hi:ops[i]? =some o) (hd:o.dst=some d) (hw:aO ops x.n g o.guard=some true) (h:OS x o g ob Wr R) (hW:∀k∈K,k∉Wr)
  (hg:∀g' ob',R g' ob'→(∃v,g'=aM g d v)∧∀k∈K,ob'[k]? =ob[k]?) (k:∀g' ob',R g' ob'→WD x ops Q late K (d::fr) true fuel (listed.setIfInBounds i true) g' ob'):WD x ops Q late K fr true (fuel+1) listed g ob:=
 WO.one hr (EC i hi hd hw h hW hg k)
theorem qW {K0:List Nat}:∀{l:List Lt}{a b:List (Option Ob)},dL K0 l a→dL K0 l b→a=b
 | [],a,b,h,h'=>by
  simp only[dL]at h h'
  rw[h,h']
 | x::l,[],b,h,_=>by simp only[dL]at h
 | x::l,a::al,[],_,h=>by simp only[dL]at h
 | x::l,a::al,b::bl,h,h'=>by
  simp only[dL]at h h'
  obtain⟨⟨l1,e1,e2⟩,h2⟩:=h
  obtain⟨⟨l2,f1,f2⟩,h3⟩:=h'
  rw[e1]at f1
  injection f1 with f1
  subst f1
  rw[e2,f2,qW h2 h3]
def Rt (l0:List Lt) (r0:FV):List Lt→FV→Prop:=fun l r=>l=l0∧r=r0
theorem Zf {i:Nat}{v:FV}(hi:Nat.blt i x.n=true) (h:∀W N cs u,aR W N cs (g i) u→aR W N cs v u):Sub x g ob (aM g i v) ob:=by
 rintro ts W ⟨cs,hR⟩
 have hi:i<x.n:=by simpa[Nat.blt,Nat.lt_iff_add_one_le]using hi
 obtain⟨u,e1,e2⟩:=hR.fv hi
 have e3:ts.setIfInBounds i u=ts:=by
  apply Array.ext_getElem?
  intro j
  by_cases hj:i=j
  ·subst hj
   have:i<ts.size:=by rw[hR.1];exact hi
   rw[Array.getElem?_setIfInBounds_self_of_lt this,e1]
  rw[Array.getElem?_setIfInBounds_ne hj]
 have:=hR.put i (h _ _ _ _ e2)
 rw[e3]at this
 exact⟨cs,this⟩
theorem Zh {t e z by_:Nat}{zz:Value}{ti:Bool}{ts0:Nat}{z0:List Value}{a:Operand}{t2:TypeId}{m:Nat}(hT:bG x.P T) (ht:aS T t=some ⟨ti,ts0,z0,.sl e z by_ zz⟩) (ha:gY (lk x.n g a)=some m):
  OS x ⟨some d,.binOp .eql t a (.const (.slice none 0 0)) t2,ty,pos,af,gd⟩ g ob [] (fun g' ob'=>∃q:Bool,(q=true→m=0)∧g'=aM g d (.one (tv (.bool q)))∧ob'=ob):=by
 obtain⟨hts,_⟩:=(bR hT ht).2.2.2
 obtain⟨i,e1,_,_⟩:=hts
 intro cs ts W hR K Q kk
 obtain⟨A,c,hu⟩:=Es (hR.lk a) ha
 have h0:∀A c,Act.eval ⟨ts,[]⟩ a=.slice A m c→(A=none→m=0):=by
  intro A c hu hA
  subst hA
  have hv:=hR.lk a
  rw[hu]at hv
  cases hlk:lk x.n g a with
  | any=>rw[hlk]at ha;simp[gY]at ha
  | agg l=>rw[hlk]at ha;simp[gY]at ha
  | tup l=>rw[hlk]at ha;simp[gY]at ha
  | one av=>
   rw[hlk]at hv ha
   cases av with
   | pt=>simp[gY]at ha
   | ef=>simp[gY]at ha
   | fn=>simp[gY]at ha
   | sl k o n=>
    simp only[aR,bB,AR]at hv
    cases hb:(co cs k).b with
    | none=>
     rw[hb]at hv
     obtain⟨_,h1,_,h3⟩:=hv
     injection h3
    | some b=>
     rw[hb]at hv
     obtain⟨_,_,_,h3,_⟩:=hv
     injection h3 with h3
     cases h3
   | t y=>
    cases y with
    | p=>simp[gY]at ha
    | f=>simp[gY]at ha
    | a=>simp[gY]at ha
    | s o t z n l=>
     simp only[aR,bB,AR,FR]at hv
     obtain⟨A,c,h1,_,_,_,h5⟩:=hv
     injection h1 with h1 h2 _
     subst h1
     rcases h5 with h5 | ⟨ad,h5,_⟩
     ·omega
     cases h5
    | v w=>
     simp only[aR,bB,AR,FR]at hv
     subst hv
     unfold gY at ha
     split at ha
     ·rename_i h9
      cases h9
     ·rename_i h9
      cases h9
     ·rename_i h9
      injection ha with ha
      exact ha.symm
     cases ha
 have hrun:(execOp (Act.eval ⟨ts,[]⟩) ⟨some d,.binOp .eql t a (.const (.slice none 0 0)) t2,ty,pos,af,gd⟩).run x.P W=.ok (.value (.bool A.isNone)) W:=by
  have h3:∀A:Option Addr,(Op.equal t (.slice A m c) (.slice none 0 0)).run x.P W=.ok A.isNone W:=fun A=>by
   show(Op.equalIn (9999+1) t (.slice A m c) (.slice none 0 0)).run x.P W=_
   rw[Op.equalIn]
   simp only[Sem.run_bind,run_underlying e1,Result.andThen_ok]
   cases A <;> rfl
  have h4:Act.eval ⟨ts,[]⟩ (.const (.slice none 0 0))=.slice none 0 0:=rfl
  simp only[execOp,hu,h4,eqGuard_at_slice,binOp,Sem.run_bind,Sem.run_pure,Result.andThen_ok,h3]
 refine cO hrun (kk _ _ _ _ _ ⟨A.isNone,fun h=>h0 A c hu (by simpa using h),rfl,rfl⟩ (hR.put d (v:=.one (tv (.bool A.isNone))) (by simp[aR,bB,tv,AR,FR])) (.put d _))
theorem Pd {z:Array Value}{n:Nat}(h0:0<z.size):(Builtin.zeroCells z n).toList=fH z.toList n:=by
 unfold Builtin.zeroCells
 apply List.ext_getElem?
 intro j
 simp only[Array.toList_map,Array.toList_range,List.getElem?_map]
 by_cases hj:j<n*z.size
 ·rw[List.getElem?_range hj,tG (by simpa using hj)]
  simp only[Option.map_some]
  have hm:j%z.size<z.size:=Nat.mod_lt _ h0
  rw[getElem!_pos z _ hm]
  simp[hm]
 rw[List.getElem?_eq_none (by simp;omega),List.getElem?_eq_none (by simp[pC];omega)]
 rfl
theorem Kz:∀{us:List Value},cH (us.map tv)=true→∀n,cH ((fH us n).map tv)=true
 | us,h,0=>rfl
 | us,h,n+1=>by
  have ih:=Kz h n
  have app:∀(a b:List AV),cH a=true→cH b=true→cH (a++b)=true:=by
   intro a b
   induction a with
   | nil=>intro _ h;exact h
   | cons c a ih=>
    intro h1 h2
    simp only[cH,Bool.and_eq_true]at h1
    simp only[List.cons_append,cH,Bool.and_eq_true]
    exact⟨h1.1,ih h1.2 h2⟩
  unfold fH
  rw[List.map_append]
  exact app _ _ h ih
theorem Zj {t e z by_ k o n:Nat}{zz:Value}{ti:Bool}{ts0:Nat}{z0:List Value}{bo:Ob}{a:Operand}(hT:bG x.P T) (ht:aS T t=some ⟨ti,ts0,z0,.sl e z by_ zz⟩) (ha:lk x.n g a=.one (.sl k o n)) (ho:bN ob k=some bo) (hle:o+n*z≤bo.l.length) (hlo:cH (zz.cells.toList.map tv)=true):
  OS x ⟨none,.call ⟨.builtin .clear, #[a], #[t]⟩,ty,pos,af,gd⟩ g ob [k] (fun g' ob2=>g'=g∧ob2=ob.set k (some ⟨bo.t,bo.z,cE bo.l o ((fH zz.cells.toList n).map tv)⟩)):=by
 obtain⟨_,ht',i,hi,hz,hsize,hby,hzs,hsz⟩:=(bR hT ht).2.2.2
 have hk:=cD ho
 intro cs ts W hR K Q kk
 have hu:=hR.lk a
 rw[ha]at hu
 simp only[aR,bB,AR]at hu
 have idle:n=0→(execOp (Act.eval ⟨ts,[]⟩) ⟨none,.call ⟨.builtin .clear, #[a], #[t]⟩,ty,pos,af,gd⟩).run x.P W=.ok (.value (.tuple #[])) W→Oper.wp x.P ⟨none,.call ⟨.builtin .clear, #[a], #[t]⟩,ty,pos,af,gd⟩ ⟨ts,[]⟩ W K Q:=fun h0 hrun=>by
  subst h0
  unfold Oper.wp
  rw[hrun]
  have e1:cE bo.l o ((fH zz.cells.toList 0).map tv)=bo.l:=by simp[cE,fH]
  have e2:ob.set k (some ⟨bo.t,bo.z,cE bo.l o ((fH zz.cells.toList 0).map tv)⟩)=ob:=by
   rw[e1]
   apply List.ext_getElem?
   intro j
   by_cases hj:k=j
   ·subst hj
    rw[List.getElem?_set_self (List.getElem?_eq_some_iff.1 hk).1,hk]
   rw[List.getElem?_set_ne hj]
  refine kk g _ cs ts W ⟨rfl,rfl⟩ (by rw[e2];exact hR) (by rw[e2];exact⟨.refl,fun _ _ _=>rfl,Nat.le_refl _,fun _ _ _=>rfl,fun _ h=>.inl h,fun _ _=>rfl⟩)
 cases hb:(co cs k).b with
 | none=>
  rw[hb]at hu
  obtain⟨_,h0,_,e⟩:=hu
  exact idle h0 (by simp[execOp,resolve,invoke,builtin,e,Builtin.clear_,run_underlying ht'])
 | some b=>
  rw[hb]at hu
  obtain⟨_,o',c,e,h1,h2,h3,_⟩:=hu
  rcases Nat.eq_zero_or_pos n with h0 | h0
  ·subst h0
   exact idle rfl (by simp[execOp,resolve,invoke,builtin,e,Builtin.clear_,run_underlying ht'])
  obtain rfl:=h3 (.inl h0)
  have hzl:((fH zz.cells.toList n).map tv).length=n*z:=by simp[pC,hzs]
  obtain⟨W',c',hst,m1,m2⟩:=hR.over (us:=(fH zz.cells.toList n).map tv) (vs:=fH zz.cells.toList n) (o:=o') hk hb (iB _) (nS _) (Kz hlo n) (by rw[hzl];exact hle)
  have hd:∃m,n=m+1:=⟨n-1,by omega⟩
  obtain⟨m,hm⟩:=hd
  have hrun:(execOp (Act.eval ⟨ts,[]⟩) ⟨none,.call ⟨.builtin .clear, #[a], #[t]⟩,ty,pos,af,gd⟩).run x.P W=.ok (.value (.tuple #[])) W':=by
   rw[←Pd (by omega),hm]at hst
   rw[hm]at e
   simp[execOp,resolve,invoke,builtin,e,Builtin.clear_,run_underlying ht',zeroValue,typeInfo,hi,hz,hst]
  unfold Oper.wp
  rw[hrun]
  exact kk _ _ _ _ _ ⟨rfl,rfl⟩ m1 (m2 none)
end
end Go.Proofs.YtcaakamelngceaaGreatDoor
