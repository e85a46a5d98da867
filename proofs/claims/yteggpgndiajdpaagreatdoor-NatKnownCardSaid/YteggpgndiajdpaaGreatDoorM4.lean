/- Part 4 of a proof: Av18 to Fin. -/
import Derived.Test.YteggpgndiajdpaaGreatDoorM3
import Derived.Test.YteggpgndiajdpaaGreatDoorChecked
import Derived.WalkKit
import Derived.ProofKit
import Derived.OpenShut
import Derived.ChangeOld
import Derived.Below
import Derived.Carry
set_option maxRecDepth 100000
set_option linter.unusedVariables false
set_option linter.unusedSimpArgs false
namespace Go.Proofs.YteggpgndiajdpaaGreatDoor
open Go Go.RowKit
section
variable {x:Cx}{g g':Nat→FV}{ob ob':List (Option Ob)}{cs cs':List Co}{ts ts':Array Value}{W W':World}{T:List (Nat×TI)}{Q:cP}{ops:Array Oper}{d:Nat}{op:Op}{ty:TypeId}{pos:String}{af:Array Edge}{gd:Option (Nat×Bool)}{late:Nat→Bool}{K fr:List Nat}{on:Bool}{fuel:Nat}{listed:Array Bool}
theorem wD {v:FV}:∀j,some d≠some j→aK g d v j=g j:=fun j hj=>by
 have hb:Nat.beq j d=false:=by
  cases hq:Nat.beq j d
  ·rfl
  exact absurd (by rw[Nat.eq_of_beq_eq_true hq]) hj
 simp[aK,hb]
theorem WD.split {t:Nat}{p:Prop} [Decidable p] (h:lk x.n g (.tmp t)=.one (tv (.bool (decide p)))) (ht:g t=.one (tv (.bool (decide p)))) (h1:p→WD x ops Q late K fr on fuel listed (aK g t (.one (tv (.bool true)))) ob) (h2:¬p→WD x ops Q late K fr on fuel listed (aK g t (.one (tv (.bool false)))) ob):WD x ops Q late K fr on fuel listed g ob:=by
 have key:∀b:Bool,decide p=b→aK g t (.one (tv (.bool b)))=g:=fun b hb=>by
  funext i
  unfold aK
  cases hq:Nat.beq i t
  ·rfl
  rw[Nat.eq_of_beq_eq_true hq,ht,hb]
  rfl
 by_cases hp:p
 ·rw[←key true (by simp[hp])]
  exact h1 hp
 rw[←key false (by simp[hp])]
 exact h2 hp
theorem WL.split {t:Nat}{rest:List Oper}{p:Prop} [Decidable p] (ht:g t=.one (tv (.bool (decide p)))) (h1:p→WL x ops rest (aK g t (.one (tv (.bool true)))) ob Q) (h2:¬p→WL x ops rest (aK g t (.one (tv (.bool false)))) ob Q):WL x ops rest g ob Q:=by
 have key:∀b:Bool,decide p=b→aK g t (.one (tv (.bool b)))=g:=fun b hb=>by
  funext i
  unfold aK
  cases hq:Nat.beq i t
  ·rfl
  rw[Nat.eq_of_beq_eq_true hq,ht,hb]
  rfl
 by_cases hp:p
 ·rw[←key true (by simp[hp])]
  exact h1 hp
 rw[←key false (by simp[hp])]
 exact h2 hp
def uP (ob ob':List (Option Ob)):List Nat→Prop
 | []=>True
 | k::K=>ob'[k]? =ob[k]? ∧uP ob ob' K
theorem nR:∀{K:List Nat},uP ob ob' K→∀k∈K,ob'[k]? =ob[k]?
 | [],_,k,hk=>by simp at hk
 | k0::K,h,k,hk=>by
  rcases List.mem_cons.1 hk with rfl | hk
  ·exact h.1
  exact nR h.2 k hk
theorem Mj {o:Oper}{R:(Nat→FV)→List (Option Ob)→Prop}{v:FV}(i:Nat) (hr:Region.ready .any ops listed=[i]) (hi:ops[i]? =some o) (hd:o.dst=some d) (hw:aO ops x.n g o.guard=some true) (h:OS x o g ob [] R)
  (hg:∀g' ob',R g' ob'→g'=aK g d v∧∀k∈K,ob'[k]? =ob[k]?) (k:∀g' ob',R g' ob'→WD x ops Q late K (d::fr) true fuel (listed.setIfInBounds i true) g' ob'):WD x ops Q late K fr true (fuel+1) listed g ob:=by
 refine Cp i hr hi hw h true (fun _=>⟨rfl,fun _ _ h=>by simp at h⟩) (fun _=>rfl) (fun _ g' ob' hR=>?_) fun g' ob' hR=>by rw[hd];exact k g' ob' hR
 obtain⟨h1,h2⟩:=hg g' ob' hR
 exact⟨by rw[hd,h1];exact wD,h2⟩
theorem Mk {fresh:Bool}{f:FuncId}{args:List FV}{r v:FV}{aa:Array Operand}{ats:Array TypeId}(i:Nat) (hr:Region.ready .any ops listed=[i]) (hi:ops[i]? =some ⟨some d,.call ⟨.value (.func f),aa,ats⟩,ty,pos,af,gd⟩) (hw:aO ops x.n g gd=some true) (hS:aJ fresh x.P f [] args (bC r)) (hf:CallOk x.P f) (ha:AL fresh x g ob aa.toList args) (hv:tR r=v)
  (k:WD x ops Q late K (d::fr) true fuel (listed.setIfInBounds i true) (aK g d v) ob):WD x ops Q late K fr true (fuel+1) listed g ob:=
 Mj (v:=v) i hr hi rfl hw (sL hS hf ha) (by rintro _ _ ⟨r',rfl,rfl,rfl⟩;exact⟨by rw[hv],fun _ _=>rfl⟩) (by rintro _ _ ⟨r',rfl,rfl,rfl⟩;rw[hv];exact k)
theorem sN {o:Oper}{R:(Nat→FV)→List (Option Ob)→Prop}{v:FV}(i:Nat) (hi:ops[i]? =some o) (hd:o.dst=some d) (hw:aO ops x.n g o.guard=some true) (h:OS x o g ob [] R)
  (hg:∀g' ob',R g' ob'→g'=aK g d v∧∀k∈K,ob'[k]? =ob[k]?) (k:∀g' ob',R g' ob'→WD x ops Q late K (d::fr) true fuel (listed.setIfInBounds i true) g' ob'):WO x ops Q late K fr true fuel listed i g ob:=by
 refine Rb i hi hw h true (fun _=>⟨rfl,fun _ _ h=>by simp at h⟩) (fun _=>rfl) (fun _ g' ob' hR=>?_) fun g' ob' hR=>by rw[hd];exact k g' ob' hR
 obtain⟨h1,h2⟩:=hg g' ob' hR
 exact⟨by rw[hd,h1];exact wD,h2⟩
theorem Ml {fresh:Bool}{f:FuncId}{args:List FV}{r v:FV}{aa:Array Operand}{ats:Array TypeId}(i:Nat) (hi:ops[i]? =some ⟨some d,.call ⟨.value (.func f),aa,ats⟩,ty,pos,af,gd⟩) (hw:aO ops x.n g gd=some true) (hS:aJ fresh x.P f [] args (bC r)) (hf:CallOk x.P f) (ha:AL fresh x g ob aa.toList args) (hv:tR r=v)
  (k:WD x ops Q late K (d::fr) true fuel (listed.setIfInBounds i true) (aK g d v) ob):WO x ops Q late K fr true fuel listed i g ob:=
 sN (v:=v) i hi rfl hw (sL hS hf ha) (by rintro _ _ ⟨r',rfl,rfl,rfl⟩;exact⟨by rw[hv],fun _ _=>rfl⟩) (by rintro _ _ ⟨r',rfl,rfl,rfl⟩;rw[hv];exact k)
theorem gD {t len key:Nat}{ps:Array (Nat×Operand)}(i:Nat) (hr:Region.ready .any ops listed=[i]) (hi:ops[i]? =some ⟨some d,.buildSlice t len ps,ty,pos,af,gd⟩) (hw:aO ops x.n g gd=some true) (hT:aU x.P T) (h:sM T x.n g t len key ps.toList ob=some ob') (hke:uP ob ob' K)
  (k:WD x ops Q late K (d::fr) true fuel (listed.setIfInBounds i true) (aK g d (.one (.sl key 0 len))) ob'):WD x ops Q late K fr true (fuel+1) listed g ob:=
 Mj (v:=.one (.sl key 0 len)) i hr hi rfl hw (Aq hT h) (by rintro _ _ ⟨rfl,rfl⟩;exact⟨rfl,nR hke⟩) (by rintro _ _ ⟨rfl,rfl⟩;exact k)
theorem yU {C:Prop}{v:FV}(i:Nat) (hr:Region.ready .any ops listed=[i]) (hi:ops[i]? =some ⟨some d,op,ty,pos,af,gd⟩) (hw:aO ops x.n g gd=some true) (hT:aU x.P T) (h:lE T x.n g op=some (C,v)) (hC:C)
  (k:WD x ops Q late K (d::fr) on fuel (listed.setIfInBounds i true) (aK g d v) ob) (hl:late i=false→on=true):WD x ops Q late K fr on (fuel+1) listed g ob:=by
 refine Cp i hr hi hw (Fy hT h hC) on (fun h=>⟨h,fun _ _ h=>by simp at h⟩) hl (fun _ g' ob' hR=>?_) fun g' ob' hR=>?_
 ·obtain⟨rfl,rfl⟩:=hR
  exact⟨wD,fun _ _=>rfl⟩
 obtain⟨rfl,rfl⟩:=hR
 exact k
theorem Ry {t:Nat}{ti:TI}{a b:Operand}(i:Nat) (hr:Region.ready .any ops listed=[i]) (hi:ops[i]? =some ⟨none,.store t a b,ty,pos,af,gd⟩) (hw:aO ops x.n g gd=some true) (hT:aU x.P T) (hti:aL T t=some ti) (h:sD ti ob (lk x.n g b) (lk x.n g a)=some ob') (hl:late i=true)
  (k:WD x ops Q late K fr false fuel (listed.setIfInBounds i true) g ob'):WD x ops Q late K fr on (fuel+1) listed g ob:=by
 obtain⟨ky,hs,_⟩:=Hq (ty:=ty) (pos:=pos) (af:=af) (gd:=gd) hT hti h
 refine Cp i hr hi hw hs false (fun h=>by cases h) (fun h=>by rw[hl]at h;cases h) (fun h=>by cases h) fun g' ob' hR=>?_
 obtain⟨rfl,rfl⟩:=hR
 exact k
theorem WL.splitb {t:Nat}{rest:List Oper}{b:Bool}(ht:g t=.one (tv (.bool b))) (h1:b=true→WL x ops rest (aK g t (.one (tv (.bool true)))) ob Q) (h2:b=false→WL x ops rest (aK g t (.one (tv (.bool false)))) ob Q):WL x ops rest g ob Q:=by
 have key:∀b':Bool,b=b'→aK g t (.one (tv (.bool b')))=g:=fun b' hb=>by
  funext i
  unfold aK
  cases hq:Nat.beq i t
  ·rfl
  rw[Nat.eq_of_beq_eq_true hq,ht,hb]
  rfl
 cases hb:b
 ·rw[←key false hb]
  exact h2 hb
 rw[←key true hb]
 exact h1 hb
theorem WD.splitb {t:Nat}{b:Bool}(ht:g t=.one (tv (.bool b))) (h1:b=true→WD x ops Q late K fr on fuel listed (aK g t (.one (tv (.bool true)))) ob) (h2:b=false→WD x ops Q late K fr on fuel listed (aK g t (.one (tv (.bool false)))) ob):WD x ops Q late K fr on fuel listed g ob:=by
 have key:∀b':Bool,b=b'→aK g t (.one (tv (.bool b')))=g:=fun b' hb=>by
  funext i
  unfold aK
  cases hq:Nat.beq i t
  ·rfl
  rw[Nat.eq_of_beq_eq_true hq,ht,hb]
  rfl
 cases hb:b
 ·rw[←key false hb]
  exact h2 hb
 rw[←key true hb]
 exact h1 hb
theorem WL.cast {t:Nat}{rest:List Oper}{u u':Value}(ht:g t=.one (tv u)) (e:u=u') (k:WL x ops rest (aK g t (.one (tv u'))) ob Q):WL x ops rest g ob Q:=by
 have:aK g t (.one (tv u'))=g:=by
  funext i
  unfold aK
  cases hq:Nat.beq i t
  ·rfl
  rw[Nat.eq_of_beq_eq_true hq,ht,e]
  rfl
 rwa[this]at k
theorem WD.cast {t:Nat}{u u':Value}(ht:g t=.one (tv u)) (e:u=u') (k:WD x ops Q late K fr on fuel listed (aK g t (.one (tv u'))) ob):WD x ops Q late K fr on fuel listed g ob:=by
 have:aK g t (.one (tv u'))=g:=by
  funext i
  unfold aK
  cases hq:Nat.beq i t
  ·rfl
  rw[Nat.eq_of_beq_eq_true hq,ht,e]
  rfl
 rwa[this]at k
theorem aD {k:IntKind}{a b:Int}(h:a=b):Value.int k a=.int k b:=by rw[h]
theorem Sub.trans {g2:Nat→FV}{ob2:List (Option Ob)}(h:Sub x g ob g' ob') (h':Sub x g' ob' g2 ob2):Sub x g ob g2 ob2:=fun ts W hR=>h' ts W (h ts W hR)
theorem Sub.refl:Sub x g ob g ob:=fun _ _ h=>h
theorem nr {i:Nat}(key e z:Nat) (hz:Nat.beq z 0=false) (hk:dS ob key=true) (hi:Nat.blt i x.n=true) (hg:g i=.one (tv (.slice none 0 0))):Sub x g ob (aK g i (.one (.sl key 0 0))) (ob++[some ⟨e,z,[]⟩]):=by
 rintro ts W ⟨cs,hR⟩
 have hk:=Nat.eq_of_beq_eq_true hk
 have hi:i<x.n:=by simpa[Nat.blt,Nat.lt_iff_add_one_le]using hi
 have hz0:z≠0:=fun e=>by subst e;simp at hz
 have m1:=hR.push (Below.refl _ _) ⟨e,z,[]⟩ ⟨none,0,[]⟩ (by simp[aC]) (by simp[aC]) (by simp[aC]) (by simp[aM]) (fun _=>⟨rfl,hz0⟩)
 obtain⟨u,h1,h2⟩:=hR.fv hi
 rw[hg]at h2
 have h2:=aE h2
 subst h2
 have m2:=m1.put i (v:=.one (.sl key 0 0)) (u:=.slice none 0 0) (by
  refine dY ?_
  simp only[AR]
  rw[←hk,hR.len,dV]
  exact⟨by simp,by trivial,by trivial,by trivial⟩)
 have e:ts.setIfInBounds i (.slice none 0 0)=ts:=by
  apply Array.ext_getElem?
  intro j
  rw[Array.getElem?_setIfInBounds]
  split
  ·rename_i e
   subst e
   split
   ·exact h1.symm
   rename_i h9
   rw[hR.1]at h9
   exact absurd hi h9
  rfl
 rw[e]at m2
 exact⟨_,m2⟩
end
def sO (k:Nat):AV→Option (AV×List Ob)
 | .t (.s true t z n l)=>match Nat.beq z 0 with
  | false=>some (.sl k 0 n,[⟨t,z,l.map .t⟩])
  | true=>none
 | .t (.p true t l)=>some (.pt k 0,[⟨t,0,l.map .t⟩])
 | .t (.s false t z n l)=>some (.t (.s false t z n l),[])
 | .t (.p false t l)=>some (.t (.p false t l),[])
 | .t (.v v)=>some (.t (.v v),[])
 | .t (.f g l0 l)=>some (.t (.f g l0 l),[])
 | _=>none
def iO (k:Nat):List AV→Option (List AV×List Ob)
 | []=>some ([],[])
 | a::l=>match sO k a with
  | some (a',[])=>match iO k l with
   | some (l',os)=>some (a'::l',os)
   | none=>none
  | some (a',o::_)=>match iO (k+1) l with
   | some (l',os)=>some (a'::l',o::os)
   | none=>none
  | none=>none
def gW:VT→Co
 | .w _=>⟨none,0,[]⟩
 | .s b c _ _ _ l=>⟨some b,c,l⟩
 | .p b _ l=>⟨some b,0,l⟩
section
variable {W:World}{N:Nat→Prop}
theorem sP {k:Nat}{a a':AV}{os:List Ob}{y:VT}(hc:CR W N [] a y) (hok:y.ok W) (h:sO k a=some (a',os)):
  (os=[]∧y.fp=[]∧∀(N':Nat→Prop) (cs:List Co),(∀b,N b→N' b)→AR W N' cs a' y.val)∨
  (∃o,os=[o]∧(aC (some o) (gW y)).S=y.fp∧(aC (some o) (gW y)).φ W∧(∀(N':Nat→Prop) (cs:List Co),(∀b,N b→N' b)→k<cs.length→co cs k=gW y→AR W N' cs a' y.val∧aM W N' cs o.l (gW y).l)∧((gW y).b=none→o.l=[]∧o.z≠0)):=by
 unfold sO at h
 split at h
 ·rename_i t z n l
  split at h
  ·rename_i hz
   injection h with h
   injection h with h1 h2
   subst h1 h2
   refine .inr ⟨_,rfl,?_⟩
   have hz0:z≠0:=fun e=>by subst e;simp at hz
   simp only[CR]at hc
   cases y with
   | w u=>
    simp only[OR]at hc
    rcases hc with⟨_,rfl,rfl,rfl⟩ | ⟨hc,_⟩
    ·refine⟨rfl,by simp[aC,gW],fun N' cs hN hk hco=>⟨?_,by simp[aM,gW]⟩,fun _=>⟨rfl,hz0⟩⟩
     simp only[AR,hco,gW,VT.val]
     exact⟨hk,by trivial,by trivial,by trivial⟩
    cases hc
   | s b c t' z' n' l'=>
    simp only[OR]at hc
    obtain⟨_,rfl,rfl,rfl,hl⟩:=hc
    simp only[VT.ok]at hok
    obtain⟨k1,k2,k3,k4,k5⟩:=hok
    refine⟨rfl,?_,fun N' cs hN hk hco=>⟨?_,sJ (ORL_keep (fun _ _=>rfl) hN _ _ hl)⟩,fun h=>by cases h⟩
    ·simp only[aC,gW]
     rw[hz,cond_false]
     exact⟨k1,k5,k3⟩
    simp only[AR,hco,gW,VT.val]
    exact⟨hk,0,c,rfl,k2,by unfold maxLen at k3;omega,fun _=>rfl,fun _=>rfl⟩
   | p b t' l'=>simp only[OR]at hc
  cases h
 ·rename_i t l
  injection h with h
  injection h with h1 h2
  subst h1 h2
  refine .inr ⟨_,rfl,?_⟩
  simp only[CR]at hc
  cases y with
  | w u=>
   simp only[OR]at hc
   cases hc.1
  | s b c t' z' n' l'=>simp only[OR]at hc
  | p b t' l'=>
   simp only[OR]at hc
   obtain⟨_,rfl,hl⟩:=hc
   simp only[VT.ok]at hok
   refine⟨rfl,?_,fun N' cs hN hk hco=>⟨?_,sJ (ORL_keep (fun _ _=>rfl) hN _ _ hl)⟩,fun h=>by cases h⟩
   ·simp only[aC,gW]
    exact⟨hok.1,hok.2,Nat.zero_le _⟩
   simp only[AR,hco,gW,VT.val]
   exact⟨b,rfl,rfl⟩
 ·injection h with h
  injection h with h1 h2
  subst h1 h2
  have hr:=qN hc rfl
  refine .inl ⟨rfl,?_,fun N' cs hN=>dL (fun _ _=>rfl) hN ⟨Nat.zero_le _,fun k hk=>by simp at hk⟩ _ _ hr⟩
  simp only[CR]at hc
  cases y with
  | w u=>rfl
  | s=>simp only[OR]at hc;cases hc.1
  | p=>simp only[OR]at hc
 ·injection h with h
  injection h with h1 h2
  subst h1 h2
  have hr:=qN hc rfl
  refine .inl ⟨rfl,?_,fun N' cs hN=>dL (fun _ _=>rfl) hN ⟨Nat.zero_le _,fun k hk=>by simp at hk⟩ _ _ hr⟩
  simp only[CR]at hc
  cases y with
  | w u=>rfl
  | s=>simp only[OR]at hc
  | p=>simp only[OR]at hc;cases hc.1
 ·injection h with h
  injection h with h1 h2
  subst h1 h2
  have hr:=qN hc rfl
  refine .inl ⟨rfl,?_,fun N' cs hN=>dL (fun _ _=>rfl) hN ⟨Nat.zero_le _,fun k hk=>by simp at hk⟩ _ _ hr⟩
  simp only[CR,OR]at hc
  subst hc
  rfl
 ·injection h with h
  injection h with h1 h2
  subst h1 h2
  have hr:=qN hc rfl
  refine .inl ⟨rfl,?_,fun N' cs hN=>dL (fun _ _=>rfl) hN ⟨Nat.zero_le _,fun k hk=>by simp at hk⟩ _ _ hr⟩
  simp only[CR]at hc
  cases y with
  | w u=>rfl
  | s=>simp only[OR]at hc
  | p=>simp only[OR]at hc
 cases h
theorem oT:∀{l l':List AV}{k:Nat}{os:List Ob}{ys:List VT},aM W N [] l ys→VT.okL W ys→iO k l=some (l',os)→∃cs2:List Co,cs2.length=os.length∧(aA (os.map some) cs2).flatMap Res.S=VT.fpL ys∧(∀r∈aA (os.map some) cs2,r.φ W)∧
  ∀(N':Nat→Prop) (cs:List Co),(∀b,N b→N' b)→k+os.length≤cs.length→(∀i,i<os.length→co cs (k+i)=co cs2 i)→ARL W N' cs l' (ys.map VT.val)∧∀(i:Nat) (o:Ob),os[i]? =some o→aM W N' cs o.l (co cs2 i).l∧((co cs2 i).b=none→o.l=[]∧o.z≠0)
 | [],l',k,os,ys,hc,hok,h=>by
  simp only[aM]at hc
  subst hc
  simp[iO]at h
  obtain⟨rfl,rfl⟩:=h
  exact⟨[],rfl,rfl,by simp[aA],fun N' cs hN hk hco=>⟨by simp[ARL],fun i o ho=>by simp at ho⟩⟩
 | a::l,l',k,os,[],hc,hok,h=>by simp only[aM]at hc
 | a::l,l',k,os,y::ys,hc,hok,h=>by
  simp only[aM]at hc
  simp only[VT.okL]at hok
  unfold iO at h
  split at h
  ·rename_i a' ha
   split at h
   ·rename_i l2 os2 hl
    injection h with h
    injection h with h1 h2
    subst h1 h2
    obtain⟨cs2,e1,e2,e3,e4⟩:=oT hc.2 hok.2 hl
    rcases sP hc.1 hok.1 ha with⟨_,f1,f2⟩ | ⟨o,f1,_⟩
    ·refine⟨cs2,e1,by rw[e2];simp[VT.fpL,f1],e3,fun N' cs hN hk hco=>?_⟩
     obtain⟨g1,g2⟩:=e4 N' cs hN hk hco
     simp only[List.map_cons,ARL]
     exact⟨⟨f2 N' cs hN,g1⟩,g2⟩
    cases f1
   cases h
  ·rename_i a' o os0 ha
   split at h
   ·rename_i l2 os2 hl
    injection h with h
    injection h with h1 h2
    subst h1 h2
    obtain⟨cs2,e1,e2,e3,e4⟩:=oT hc.2 hok.2 hl
    rcases sP hc.1 hok.1 ha with⟨f1,_⟩ | ⟨o',f1,f2,f3,f4,f5⟩
    ·cases f1
    injection f1 with f1 _
    subst f1
    refine⟨gW y::cs2,by simp[e1],?_,?_,fun N' cs hN hk hco=>?_⟩
    ·unfold aA at e2⊢
     simp only[List.map_cons,List.zipWith_cons_cons,List.flatMap_cons,VT.fpL,f2,e2]
    ·unfold aA at e3⊢
     simp only[List.map_cons,List.zipWith_cons_cons]
     intro r hr
     rcases List.mem_cons.1 hr with rfl | hr
     ·exact f3
     exact e3 r hr
    simp only[List.length_cons]at hk hco
    have h0:=hco 0 (by omega)
    obtain⟨g1,g2⟩:=f4 N' cs hN (by omega) h0
    obtain⟨g3,g4⟩:=e4 N' cs hN (by omega) (fun i hi=>by
     have:=hco (i+1) (by omega)
     rw[show k+(i+1)=k+1+i by omega]at this
     rw[this]
     simp[co])
    simp only[List.map_cons,ARL]
    refine⟨⟨g1,g3⟩,fun i o ho=>?_⟩
    cases i with
    | zero=>
     simp at ho
     subst ho
     exact⟨g2,f5⟩
    | succ i=>
     have:=g4 i o (by simpa using ho)
     simpa[co]using this
   cases h
  cases h
end
def nS (k:Nat):FV→Option (FV×List Ob)
 | .one a=>match sO k a with
  | some (a',os)=>some (.one a',os)
  | none=>none
 | .agg l=>match iO k l with
  | some (l',os)=>some (.agg l',os)
  | none=>none
 | _=>none
def pW (k:Nat):List FV→Option (List FV×List Ob)
 | []=>some ([],[])
 | a::l=>match nS k a with
  | some (a',os)=>match pW (k+os.length) l with
   | some (l',os')=>some (a'::l',os++os')
   | none=>none
  | none=>none
def nT (k:Nat):FV→Option (FV×List Ob)
 | .tup l=>match pW k l with
  | some (l',os)=>some (.tup l',os)
  | none=>none
 | v=>nS k v
section
variable {W:World}{N:Nat→Prop}
def Bnd (W:World) (N:Nat→Prop) (k:Nat) (os:List Ob) (ys:List VT) (A:(Nat→Prop)→List Co→Prop):Prop:=∃cs2:List Co,cs2.length=os.length∧(aA (os.map some) cs2).flatMap Res.S=VT.fpL ys∧(∀r∈aA (os.map some) cs2,r.φ W)∧
  ∀(N':Nat→Prop) (cs:List Co),(∀b,N b→N' b)→k+os.length≤cs.length→(∀i,i<os.length→co cs (k+i)=co cs2 i)→A N' cs∧∀(i:Nat) (o:Ob),os[i]? =some o→aM W N' cs o.l (co cs2 i).l∧((co cs2 i).b=none→o.l=[]∧o.z≠0)
theorem sQ {k:Nat}{r v:FV}{os:List Ob}{u:Value}{ys:List VT}(hr:mX W N [] r u ys) (hok:VT.okL W ys) (h:nS k r=some (v,os)):Bnd W N k os ys (fun N' cs=>aR W N' cs v u):=by
 cases r with
 | any=>exact hr.elim
 | tup l=>exact hr.elim
 | one a=>
  obtain⟨z,rfl,rfl,hc⟩:=hr
  unfold nS at h
  dsimp only at h
  split at h
  ·rename_i a' os' ha
   injection h with h
   injection h with h1 h2
   subst h1 h2
   have hl:iO k [a]=some ([a'],os')∨∃o r,os'=o::r:=by
    cases os' with
    | nil=>left;simp[iO,ha]
    | cons o r=>exact .inr ⟨o,r,rfl⟩
   have hl2:iO k [a]=some ([a'],os'):=by
    rcases hl with hl | ⟨o,r,rfl⟩
    ·exact hl
    have hr':r=[]:=by
     rcases sP hc (by simpa[VT.okL]using hok) ha with⟨f1,_⟩ | ⟨o',f1,_⟩
     ·cases f1
     injection f1
    subst hr'
    simp[iO,ha]
   obtain⟨cs2,e1,e2,e3,e4⟩:=oT (l:=[a]) (ys:=[z]) (by simp only[aM];exact⟨hc,trivial⟩) hok hl2
   refine⟨cs2,e1,e2,e3,fun N' cs hN hk hco=>?_⟩
   obtain⟨g1,g2⟩:=e4 N' cs hN hk hco
   simp only[List.map_cons,ARL]at g1
   exact⟨g1.1,g2⟩
  cases h
 | agg l=>
  obtain⟨rfl,hc⟩:=hr
  unfold nS at h
  dsimp only at h
  split at h
  ·rename_i l' os' hl
   injection h with h
   injection h with h1 h2
   subst h1 h2
   obtain⟨cs2,e1,e2,e3,e4⟩:=oT hc hok hl
   refine⟨cs2,e1,e2,e3,fun N' cs hN hk hco=>?_⟩
   obtain⟨g1,g2⟩:=e4 N' cs hN hk hco
   exact⟨⟨_,rfl,g1⟩,g2⟩
  cases h
theorem Bnd.app {k:Nat}{os os':List Ob}{ys ys':List VT}{A B:(Nat→Prop)→List Co→Prop}(h:Bnd W N k os ys A) (h':Bnd W N (k+os.length) os' ys' B):Bnd W N k (os++os') (ys++ys') (fun N cs=>A N cs∧B N cs):=by
 obtain⟨c1,a1,a2,a3,a4⟩:=h
 obtain⟨c2,b1,b2,b3,b4⟩:=h'
 have hr:aA ((os++os').map some) (c1++c2)=aA (os.map some) c1++aA (os'.map some) c2:=by
  unfold aA
  rw[List.map_append,List.zipWith_append (by simp[a1])]
 have hc1:∀i,i<os.length→co (c1++c2) i=co c1 i:=fun i hi=>by simp[co,List.getElem?_append_left (show i<c1.length by omega)]
 have hc2:∀i,co (c1++c2) (os.length+i)=co c2 i:=fun i=>by
  unfold co
  rw[List.getElem?_append_right (by omega),show os.length+i-c1.length=i by omega]
 refine⟨c1++c2,by simp[a1,b1],by rw[hr,List.flatMap_append,a2,b2,fM],fun r hm=>?_,fun N' cs hN hk hco=>?_⟩
 ·rw[hr]at hm
  rcases List.mem_append.1 hm with hm | hm
  ·exact a3 r hm
  exact b3 r hm
 simp only[List.length_append]at hk hco
 obtain⟨g1,g2⟩:=a4 N' cs hN (by omega) (fun i hi=>by rw[hco i (by omega),hc1 i hi])
 obtain⟨g3,g4⟩:=b4 N' cs hN (by omega) (fun i hi=>by
  have:=hco (os.length+i) (by omega)
  rw[hc2,show k+(os.length+i)=k+os.length+i by omega]at this
  exact this)
 refine⟨⟨g1,g3⟩,fun i o ho=>?_⟩
 rcases Nat.lt_or_ge i os.length with hi | hi
 ·rw[List.getElem?_append_left hi]at ho
  rw[hc1 i hi]
  exact g2 i o ho
 rw[List.getElem?_append_right hi]at ho
 have:=g4 (i-os.length) o ho
 rw[←hc2,show os.length+(i-os.length)=i by omega]at this
 exact this
theorem yV:∀{l l':List FV}{k:Nat}{os:List Ob}{us:List Value}{ys:List VT},nM W N [] l us ys→VT.okL W ys→pW k l=some (l',os)→Bnd W N k os ys (fun N' cs=>bM W N' cs l' us)
 | [],l',k,os,us,ys,hr,hok,h=>by
  simp[pW]at h
  obtain⟨rfl,rfl⟩:=h
  obtain⟨rfl,rfl⟩:=hr
  exact⟨[],rfl,rfl,by simp[aA],fun N' cs hN hk hco=>⟨by simp[bM],fun i o ho=>by simp at ho⟩⟩
 | a::l,l',k,os,us,ys,⟨v,vs,y1,y2,h1,h2,h3,h4⟩,hok,h=>by
  subst h1 h2
  rw[gV]at hok
  unfold pW at h
  split at h
  ·rename_i a' os1 ha
   split at h
   ·rename_i l2 os2 hl
    injection h with h
    injection h with e1 e2
    subst e1 e2
    have q1:=sQ h3 hok.1 ha
    have q2:=yV h4 hok.2 hl
    obtain⟨cs2,e1,e2,e3,e4⟩:=q1.app q2
    exact⟨cs2,e1,e2,e3,fun N' cs hN hk hco=>by
     obtain⟨g1,g2⟩:=e4 N' cs hN hk hco
     exact⟨by simp only[bM];exact g1,g2⟩⟩
   cases h
  cases h
theorem Cy {k:Nat}{r v:FV}{os:List Ob}{u:Value}{ys:List VT}(hr:RO W N [] r u ys) (hok:VT.okL W ys) (h:nT k r=some (v,os)):Bnd W N k os ys (fun N' cs=>aI W N' cs v u):=by
 cases r with
 | tup l=>
  obtain⟨us,rfl,h2⟩:=hr
  unfold nT at h
  dsimp only at h
  split at h
  ·rename_i l' os' hl
   injection h with h
   injection h with h1 h2
   subst h1 h2
   obtain⟨cs2,e1,e2,e3,e4⟩:=yV h2 hok hl
   exact⟨cs2,e1,e2,e3,fun N' cs hN hk hco=>⟨⟨us,rfl,(e4 N' cs hN hk hco).1⟩,(e4 N' cs hN hk hco).2⟩⟩
  cases h
 | any=>exact hr.elim
 | one a=>
  obtain⟨cs2,e1,e2,e3,e4⟩:=sQ (r:=.one a) hr hok h
  exact⟨cs2,e1,e2,e3,fun N' cs hN hk hco=>⟨gH (e4 N' cs hN hk hco).1,(e4 N' cs hN hk hco).2⟩⟩
 | agg l=>
  obtain⟨cs2,e1,e2,e3,e4⟩:=sQ (r:=.agg l) hr hok h
  exact⟨cs2,e1,e2,e3,fun N' cs hN hk hco=>⟨gH (e4 N' cs hN hk hco).1,(e4 N' cs hN hk hco).2⟩⟩
end
section
variable {x:Cx}{g g':Nat→FV}{ob ob':List (Option Ob)}{cs cs':List Co}{ts ts':Array Value}{W W':World}{T:List (Nat×TI)}{Q:cP}{ops:Array Oper}{rest:List Oper}{d:Nat}{ty:TypeId}{pos:String}{af:Array Edge}{gd:Option (Nat×Bool)}
theorem Ge {fresh:Bool}{f:FuncId}{args:List FV}{R:List Lt→FV→Prop}{aa:Array Operand}{ats:Array TypeId}{key:Nat}(hS:aJ fresh x.P f [] args R) (hf:CallOk x.P f) (ha:AL fresh x g ob aa.toList args) (hk:dS ob key=true) (hb:∀r,R [] r→(nT key r).isSome=true):
  OS x ⟨some d,.call ⟨.value (.func f),aa,ats⟩,ty,pos,af,gd⟩ g ob [] (fun g' ob'=>∃r v os,R [] r∧nT key r=some (v,os)∧g'=aK g d v∧ob'=ob++os.map some):=by
 intro cs ts W hR K Q kk
 have hC:=tS hS ha hR
 obtain⟨fn,c,h1,h2,h3⟩:=hf
 have hrun:(execOp (Act.eval ⟨ts,[]⟩) ⟨some d,.call ⟨.value (.func f),aa,ats⟩,ty,pos,af,gd⟩).run x.P W=.ok (.enter f (aa.toList.map (Act.eval ⟨ts,[]⟩)).toArray) W:=by
  have e0:Act.eval ⟨ts,[]⟩ (.func f)=.func (.func f) #[] #[]:=rfl
  have e1:aa.map (Act.eval ⟨ts,[]⟩)=(aa.toList.map (Act.eval ⟨ts,[]⟩)).toArray:=by apply Array.ext';simp only[Array.toList_map]
  simp[execOp,resolve,e0,Deferred.ofValue,invoke,e1,callFunc,h1,h3]
  intro hn
  rw[hn]at h2
  simp at h2
 unfold Oper.wp
 rw[hrun]
 refine hC.mono fun e W' hE=>?_
 obtain⟨u,r,ys,rfl,hr,hbel,hok,hnd,hfp,hro⟩:=hE
 obtain⟨⟨v,os⟩,hbn⟩:=Option.isSome_iff_exists.1 (hb r hr)
 obtain⟨cs2,e1,e2,e3,e4⟩:=Cy hro hok hbn
 have hk:=Nat.eq_of_beq_eq_true hk
 have hlen:=hR.len
 have hrs:aA (ob++os.map some) (cs++cs2)=aA ob cs++aA (os.map some) cs2:=by
  unfold aA
  rw[List.zipWith_append hlen]
 have hext:=hR.2.ext hbel
 have hnew:∀b∈(aA (os.map some) cs2).flatMap Res.S,W.heap.size≤b∧b<W'.heap.size:=fun b hb=>hfp b (by rw[←e2];exact hb)
 have hL:Loc x.M x.w W' (aA (ob++os.map some) (cs++cs2)) []:=by
  rw[hrs]
  refine⟨hext.chg,fun q hq=>?_,fun b hb=>?_,?_,fun _ h=>by cases h⟩
  ·rcases List.mem_append.1 hq with hq | hq
   ·exact hext.res q hq
   exact e3 q hq
  ·rw[List.flatMap_append,List.mem_append]at hb
   rcases hb with hb | hb
   ·exact hext.blk b hb
   exact⟨.inr (Nat.le_trans hR.2.chg.size (hnew b hb).1),(hnew b hb).2⟩
  rw[List.flatMap_append,List.nodup_append]
  refine⟨hext.nd,by rw[e2];exact hnd,fun a ha b hb e=>?_⟩
  subst e
  have:=(hR.2.blk a ha).2
  have:=(hnew a hb).1
  omega
 have hown:∀b∈bJ (ob++os.map some) (cs++cs2),b∈bJ ob cs∨W.heap.size≤b:=fun b hb=>by
  unfold bJ at hb
  rw[hrs,List.flatMap_append,List.mem_append]at hb
  rcases hb with hb | hb
  ·exact .inl hb
  exact .inr (hnew b hb).1
 have hsame:Same cs (cs++cs2):=⟨by simp,fun k hk=>by simp[co,List.getElem?_append_left hk]⟩
 have hcoA:∀k,k<cs.length→co (cs++cs2) k=co cs k:=fun k hk=>by simp[co,List.getElem?_append_left hk]
 have hcoB:∀i,co (cs++cs2) (key+i)=co cs2 i:=fun i=>by
  unfold co
  rw[List.getElem?_append_right (by omega),show key+i-cs.length=i by omega]
 have hN:∀b,x.fr W ob cs b→x.fr W' (ob++os.map some) (cs++cs2) b:=fun b h=>kL h hbel.size hown
 have hkeep:∀b,x.fr W ob cs b→W'.heap[b]? =W.heap[b]? :=fun b h=>hbel.block b h.1.1
 have hN2:∀b,(fresh=false∧b∉VT.fpL ys∧b<W'.heap.size∧(x.fr W ob cs b∨W.heap.size≤b))→x.fr W' (ob++os.map some) (cs++cs2) b:=fun b hb=>by
  obtain⟨_,h5,h6,h7⟩:=hb
  rcases h7 with h7 | h7
  ·exact hN b h7
  refine⟨⟨h6,fun hm=>?_⟩,.inr (.inr (Nat.le_trans hR.2.chg.size h7))⟩
  rw[hrs,List.flatMap_append,List.mem_append]at hm
  rcases hm with hm | hm
  ·have:=(hR.2.blk b hm).2
   omega
  exact h5 (by rw[←e2];exact hm)
 obtain⟨g1,g2⟩:=e4 _ (cs++cs2) hN2 (by simp[e1];omega) (fun i _=>hcoB i)
 have hR':RelC x g (ob++os.map some) (cs++cs2) ts W':=by
  refine .of hR.1 hL ⟨by simp[hlen,e1],fun k o hk'=>?_⟩ (fun i hi=>?_) (hR.3.trans hsame)
  ·rcases Nat.lt_or_ge k ob.length with hlt | hge
   ·rw[List.getElem?_append_left hlt]at hk'
    have h5:=hR.obs.2 k o hk'
    rw[hcoA k (by omega)]
    exact⟨bP hkeep hN hsame _ _ h5.1,h5.2⟩
   rw[List.getElem?_append_right hge]at hk'
   have ho:os[k-ob.length]? =some o:=by
    rw[List.getElem?_map]at hk'
    cases hq:os[k-ob.length]? with
    | none=>rw[hq]at hk';cases hk'
    | some o'=>
     rw[hq]at hk'
     simp at hk'
     rw[hk']
   have h5:=g2 _ o ho
   have e9:=hcoB (k-ob.length)
   rw[show key+(k-ob.length)=k by omega]at e9
   rw[e9]
   exact h5
  obtain⟨u,h5,h6⟩:=hR.fv hi
  exact⟨u,h5,cM hkeep hN hsame _ _ h6⟩
 exact kk _ _ _ _ _ ⟨r,v,os,hr,hbn,rfl,rfl⟩ (hR'.put d g1) ⟨hsame,fun k _ hk=>hcoA k hk,hbel.size,fun b hlt _=>hbel.block b hlt,hown,fun i hi=>Array.getElem?_setIfInBounds_ne (fun e=>hi (by rw[e]))⟩
theorem Je {fresh:Bool}{f:FuncId}{args:List FV}{r v:FV}{os:List Ob}{aa:Array Operand}{ats:Array TypeId}{key:Nat}(hw:aO ops x.n g gd=some true) (hS:aJ fresh x.P f [] args (bC r)) (hf:CallOk x.P f) (ha:AL fresh x g ob aa.toList args) (hk:dS ob key=true) (hb:nT key r=some (v,os)) (k:WL x ops rest (aK g d v) (ob++os.map some) Q):
  WL x ops (⟨some d,.call ⟨.value (.func f),aa,ats⟩,ty,pos,af,gd⟩::rest) g ob Q:=
 eU (Ge hS hf ha hk (by rintro _ rfl;rw[hb];rfl)) hw (by
  rintro _ _ ⟨r',v',os',rfl,h,rfl,rfl⟩
  rw[hb]at h
  injection h with h
  injection h with h1 h2
  subst h1 h2
  exact k)
end
set_option maxRecDepth 100000
theorem TyArr.mk2 {P:Program}{t n size:Nat}(e:Nat) (h:P.underlying t=some (.array n e)) (h2:(P.info? e).map (·.size)=some size):TyArr P t n size:=by
 obtain⟨i,h3,h4⟩:=Option.map_eq_some_iff.1 h2
 exact⟨e,i,h,h3,h4⟩
theorem Ti:cW Tryz.prog 2 ⟨false,1,[.int .i64 0],.it .i64⟩:=⟨⟨.mk (by kernel_rfl) (by kernel_rfl),rfl⟩,.mk (by kernel_rfl),.mk (by kernel_rfl),.mk (by kernel_rfl)⟩
theorem Tj:cW Tryz.prog 3 ⟨false,1,[.int .i64 0],.it .i64⟩:=⟨⟨.mk (by kernel_rfl) (by kernel_rfl),rfl⟩,.mk (by kernel_rfl),.mk (by kernel_rfl),.mk (by kernel_rfl)⟩
theorem Tk:cW Tryz.prog 4 ⟨false,1,[.bool false],.bl⟩:=⟨⟨.mk (by kernel_rfl) (by kernel_rfl),rfl⟩,.mk (by kernel_rfl),.mk (by kernel_rfl),.mk (by kernel_rfl)⟩
theorem Tl:cW Tryz.prog 5 ⟨false,1,[.int .u8 0],.it .u8⟩:=⟨⟨.mk (by kernel_rfl) (by kernel_rfl),rfl⟩,.mk (by kernel_rfl),.mk (by kernel_rfl),.mk (by kernel_rfl)⟩
theorem Tm:cW Tryz.prog 9 ⟨false,1,[.string ⟨#[]⟩],.str⟩:=⟨⟨.mk (by kernel_rfl) (by kernel_rfl),rfl⟩,.mk (by kernel_rfl),.mk (by kernel_rfl),.mk (by kernel_rfl)⟩
theorem Rz:cW Tryz.prog 22 ⟨false,1,[.int .u32 0],.it .u32⟩:=⟨⟨.mk (by kernel_rfl) (by kernel_rfl),rfl⟩,.mk (by kernel_rfl),.mk (by kernel_rfl),.mk (by kernel_rfl)⟩
theorem Sa:cW Tryz.prog 23 ⟨false,1,[.slice none 0 0],.sl 22 1 4 (.int .u32 0)⟩:=⟨⟨.mk (by kernel_rfl) (by kernel_rfl),rfl⟩,.mk (by kernel_rfl),.mk (by kernel_rfl),⟨.mk (by kernel_rfl) (by kernel_rfl),.mk (by kernel_rfl) (by kernel_rfl) rfl (by decide)⟩⟩
theorem Sb:cW Tryz.prog 25 ⟨false,1,[.int .i64 0],.it .i64⟩:=⟨⟨.mk (by kernel_rfl) (by kernel_rfl),rfl⟩,.mk (by kernel_rfl),.mk (by kernel_rfl),.mk (by kernel_rfl)⟩
theorem Sc:cW Tryz.prog 28 ⟨false,1,[.slice none 0 0],.sl 5 1 1 (.int .u8 0)⟩:=⟨⟨.mk (by kernel_rfl) (by kernel_rfl),rfl⟩,.mk (by kernel_rfl),.mk (by kernel_rfl),⟨.mk (by kernel_rfl) (by kernel_rfl),.mk (by kernel_rfl) (by kernel_rfl) rfl (by decide)⟩⟩
theorem Sd:cW Tryz.prog 39 ⟨false,1,[.slice none 0 0],.sl 23 1 24 (.slice none 0 0)⟩:=⟨⟨.mk (by kernel_rfl) (by kernel_rfl),rfl⟩,.mk (by kernel_rfl),.mk (by kernel_rfl),⟨.mk (by kernel_rfl) (by kernel_rfl),.mk (by kernel_rfl) (by kernel_rfl) rfl (by decide)⟩⟩
theorem Se:cW Tryz.prog 42 ⟨false,1,[.slice none 0 0],.sl 9 1 16 (.string ⟨#[]⟩)⟩:=⟨⟨.mk (by kernel_rfl) (by kernel_rfl),rfl⟩,.mk (by kernel_rfl),.mk (by kernel_rfl),⟨.mk (by kernel_rfl) (by kernel_rfl),.mk (by kernel_rfl) (by kernel_rfl) rfl (by decide)⟩⟩
theorem Sf:cW Tryz.prog 44 ⟨true,2,[.bool false,.slice none 0 0],.st [(0,4,1),(1,23,1)]⟩:=⟨.mk (by kernel_rfl) (by kernel_rfl),.mk (by kernel_rfl),.mk (by kernel_rfl),⟨⟨.mk (by kernel_rfl),.mk (by kernel_rfl),⟨.mk (by kernel_rfl),.mk (by kernel_rfl),trivial⟩⟩,.mk (by kernel_rfl)⟩⟩
theorem Sg:cW Tryz.prog 47 ⟨true,2,[.bool false,.slice none 0 0],.st [(0,4,1),(1,23,1)]⟩:=⟨.mk (by kernel_rfl) (by kernel_rfl),.mk (by kernel_rfl),.mk (by kernel_rfl),⟨⟨.mk (by kernel_rfl),.mk (by kernel_rfl),⟨.mk (by kernel_rfl),.mk (by kernel_rfl),trivial⟩⟩,.mk (by kernel_rfl)⟩⟩
theorem Si:cW Tryz.prog 69 ⟨false,1,[.slice none 0 0],.sl 2 1 8 (.int .i64 0)⟩:=⟨⟨.mk (by kernel_rfl) (by kernel_rfl),rfl⟩,.mk (by kernel_rfl),.mk (by kernel_rfl),⟨.mk (by kernel_rfl) (by kernel_rfl),.mk (by kernel_rfl) (by kernel_rfl) rfl (by decide)⟩⟩
theorem Sj:cW Tryz.prog 71 ⟨false,1,[.slice none 0 0],.sl 44 2 32 (.agg #[.bool false,.slice none 0 0])⟩:=⟨⟨.mk (by kernel_rfl) (by kernel_rfl),rfl⟩,.mk (by kernel_rfl),.mk (by kernel_rfl),⟨.mk (by kernel_rfl) (by kernel_rfl),.mk (by kernel_rfl) (by kernel_rfl) rfl (by decide)⟩⟩
theorem Sk:cW Tryz.prog 79 ⟨false,1,[.nilIface],.ot⟩:=⟨⟨.mk (by kernel_rfl) (by kernel_rfl),rfl⟩,.mk (by kernel_rfl),.mk (by kernel_rfl),trivial⟩
theorem Sl:cW Tryz.prog 85 ⟨false,1,[.int .u64 0],.it .u64⟩:=⟨⟨.mk (by kernel_rfl) (by kernel_rfl),rfl⟩,.mk (by kernel_rfl),.mk (by kernel_rfl),.mk (by kernel_rfl)⟩
theorem Sm:cW Tryz.prog 87 ⟨true,9,[.int .u8 0,.int .u8 0,.int .u8 0,.int .u8 0,.int .u8 0,.int .u8 0,.int .u8 0,.int .u8 0,.int .u8 0],.ar 9 1⟩:=⟨.mk (by kernel_rfl) (by kernel_rfl),.mk (by kernel_rfl),.mk (by kernel_rfl),TyArr.mk2 5 (by kernel_rfl) (by kernel_rfl)⟩
theorem Pl:cW Tryz.prog 103 ⟨true,2,[.bool false,.slice none 0 0],.st [(0,44,2)]⟩:=⟨.mk (by kernel_rfl) (by kernel_rfl),.mk (by kernel_rfl),.mk (by kernel_rfl),⟨⟨.mk (by kernel_rfl),.mk (by kernel_rfl),trivial⟩,.mk (by kernel_rfl)⟩⟩
theorem Pm:cW Tryz.prog 105 ⟨false,1,[.int .u64 0],.it .u64⟩:=⟨⟨.mk (by kernel_rfl) (by kernel_rfl),rfl⟩,.mk (by kernel_rfl),.mk (by kernel_rfl),.mk (by kernel_rfl)⟩
theorem Pn:cW Tryz.prog 114 ⟨false,1,[.slice none 0 0],.sl 47 2 32 (.agg #[.bool false,.slice none 0 0])⟩:=⟨⟨.mk (by kernel_rfl) (by kernel_rfl),rfl⟩,.mk (by kernel_rfl),.mk (by kernel_rfl),⟨.mk (by kernel_rfl) (by kernel_rfl),.mk (by kernel_rfl) (by kernel_rfl) rfl (by decide)⟩⟩
theorem Po:cW Tryz.prog 138 ⟨true,16,[.int .i64 0,.int .i64 0,.int .i64 0,.int .i64 0,.int .i64 0,.int .i64 0,.int .i64 0,.int .i64 0,.int .i64 0,.int .i64 0,.int .i64 0,.int .i64 0,.int .i64 0,.int .i64 0,.int .i64 0,.int .i64 0],.ar 16 1⟩:=⟨.mk (by kernel_rfl) (by kernel_rfl),.mk (by kernel_rfl),.mk (by kernel_rfl),TyArr.mk2 3 (by kernel_rfl) (by kernel_rfl)⟩
theorem Pp:cW Tryz.prog 142 ⟨false,1,[.slice none 0 0],.sl 3 1 8 (.int .i64 0)⟩:=⟨⟨.mk (by kernel_rfl) (by kernel_rfl),rfl⟩,.mk (by kernel_rfl),.mk (by kernel_rfl),⟨.mk (by kernel_rfl) (by kernel_rfl),.mk (by kernel_rfl) (by kernel_rfl) rfl (by decide)⟩⟩
theorem Pq:cW Tryz.prog 199 ⟨true,32,[.int .u8 0,.int .u8 0,.int .u8 0,.int .u8 0,.int .u8 0,.int .u8 0,.int .u8 0,.int .u8 0,.int .u8 0,.int .u8 0,.int .u8 0,.int .u8 0,.int .u8 0,.int .u8 0,.int .u8 0,.int .u8 0,.int .u8 0,.int .u8 0,.int .u8 0,.int .u8 0,.int .u8 0,.int .u8 0,.int .u8 0,.int .u8 0,.int .u8 0,.int .u8 0,.int .u8 0,.int .u8 0,.int .u8 0,.int .u8 0,.int .u8 0,.int .u8 0],.ar 32 1⟩:=⟨.mk (by kernel_rfl) (by kernel_rfl),.mk (by kernel_rfl),.mk (by kernel_rfl),TyArr.mk2 5 (by kernel_rfl) (by kernel_rfl)⟩
theorem Pr:cW Tryz.prog 200 ⟨true,64,[.int .u8 0,.int .u8 0,.int .u8 0,.int .u8 0,.int .u8 0,.int .u8 0,.int .u8 0,.int .u8 0,.int .u8 0,.int .u8 0,.int .u8 0,.int .u8 0,.int .u8 0,.int .u8 0,.int .u8 0,.int .u8 0,.int .u8 0,.int .u8 0,.int .u8 0,.int .u8 0,.int .u8 0,.int .u8 0,.int .u8 0,.int .u8 0,.int .u8 0,.int .u8 0,.int .u8 0,.int .u8 0,.int .u8 0,.int .u8 0,.int .u8 0,.int .u8 0,.int .u8 0,.int .u8 0,.int .u8 0,.int .u8 0,.int .u8 0,.int .u8 0,.int .u8 0,.int .u8 0,.int .u8 0,.int .u8 0,.int .u8 0,.int .u8 0,.int .u8 0,.int .u8 0,.int .u8 0,.int .u8 0,.int .u8 0,.int .u8 0,.int .u8 0,.int .u8 0,.int .u8 0,.int .u8 0,.int .u8 0,.int .u8 0,.int .u8 0,.int .u8 0,.int .u8 0,.int .u8 0,.int .u8 0,.int .u8 0,.int .u8 0,.int .u8 0],.ar 64 1⟩:=⟨.mk (by kernel_rfl) (by kernel_rfl),.mk (by kernel_rfl),.mk (by kernel_rfl),TyArr.mk2 5 (by kernel_rfl) (by kernel_rfl)⟩
def ttab:List (Nat×TI):=[(2,⟨false,1,[.int .i64 0],.it .i64⟩),
 (3,⟨false,1,[.int .i64 0],.it .i64⟩),
 (4,⟨false,1,[.bool false],.bl⟩),
 (5,⟨false,1,[.int .u8 0],.it .u8⟩),
 (9,⟨false,1,[.string ⟨#[]⟩],.str⟩),
 (22,⟨false,1,[.int .u32 0],.it .u32⟩),
 (23,⟨false,1,[.slice none 0 0],.sl 22 1 4 (.int .u32 0)⟩),
 (25,⟨false,1,[.int .i64 0],.it .i64⟩),
 (28,⟨false,1,[.slice none 0 0],.sl 5 1 1 (.int .u8 0)⟩),
 (39,⟨false,1,[.slice none 0 0],.sl 23 1 24 (.slice none 0 0)⟩),
 (42,⟨false,1,[.slice none 0 0],.sl 9 1 16 (.string ⟨#[]⟩)⟩),
 (44,⟨true,2,[.bool false,.slice none 0 0],.st [(0,4,1),(1,23,1)]⟩),
 (47,⟨true,2,[.bool false,.slice none 0 0],.st [(0,4,1),(1,23,1)]⟩),
 (69,⟨false,1,[.slice none 0 0],.sl 2 1 8 (.int .i64 0)⟩),
 (71,⟨false,1,[.slice none 0 0],.sl 44 2 32 (.agg #[.bool false,.slice none 0 0])⟩),
 (79,⟨false,1,[.nilIface],.ot⟩),
 (85,⟨false,1,[.int .u64 0],.it .u64⟩),
 (87,⟨true,9,[.int .u8 0,.int .u8 0,.int .u8 0,.int .u8 0,.int .u8 0,.int .u8 0,.int .u8 0,.int .u8 0,.int .u8 0],.ar 9 1⟩),
 (103,⟨true,2,[.bool false,.slice none 0 0],.st [(0,44,2)]⟩),
 (105,⟨false,1,[.int .u64 0],.it .u64⟩),
 (114,⟨false,1,[.slice none 0 0],.sl 47 2 32 (.agg #[.bool false,.slice none 0 0])⟩),
 (138,⟨true,16,[.int .i64 0,.int .i64 0,.int .i64 0,.int .i64 0,.int .i64 0,.int .i64 0,.int .i64 0,.int .i64 0,.int .i64 0,.int .i64 0,.int .i64 0,.int .i64 0,.int .i64 0,.int .i64 0,.int .i64 0,.int .i64 0],.ar 16 1⟩),
 (142,⟨false,1,[.slice none 0 0],.sl 3 1 8 (.int .i64 0)⟩),
 (199,⟨true,32,[.int .u8 0,.int .u8 0,.int .u8 0,.int .u8 0,.int .u8 0,.int .u8 0,.int .u8 0,.int .u8 0,.int .u8 0,.int .u8 0,.int .u8 0,.int .u8 0,.int .u8 0,.int .u8 0,.int .u8 0,.int .u8 0,.int .u8 0,.int .u8 0,.int .u8 0,.int .u8 0,.int .u8 0,.int .u8 0,.int .u8 0,.int .u8 0,.int .u8 0,.int .u8 0,.int .u8 0,.int .u8 0,.int .u8 0,.int .u8 0,.int .u8 0,.int .u8 0],.ar 32 1⟩),
 (200,⟨true,64,[.int .u8 0,.int .u8 0,.int .u8 0,.int .u8 0,.int .u8 0,.int .u8 0,.int .u8 0,.int .u8 0,.int .u8 0,.int .u8 0,.int .u8 0,.int .u8 0,.int .u8 0,.int .u8 0,.int .u8 0,.int .u8 0,.int .u8 0,.int .u8 0,.int .u8 0,.int .u8 0,.int .u8 0,.int .u8 0,.int .u8 0,.int .u8 0,.int .u8 0,.int .u8 0,.int .u8 0,.int .u8 0,.int .u8 0,.int .u8 0,.int .u8 0,.int .u8 0,.int .u8 0,.int .u8 0,.int .u8 0,.int .u8 0,.int .u8 0,.int .u8 0,.int .u8 0,.int .u8 0,.int .u8 0,.int .u8 0,.int .u8 0,.int .u8 0,.int .u8 0,.int .u8 0,.int .u8 0,.int .u8 0,.int .u8 0,.int .u8 0,.int .u8 0,.int .u8 0,.int .u8 0,.int .u8 0,.int .u8 0,.int .u8 0,.int .u8 0,.int .u8 0,.int .u8 0,.int .u8 0,.int .u8 0,.int .u8 0,.int .u8 0,.int .u8 0],.ar 64 1⟩)]
theorem aG:aU Tryz.prog ttab:=⟨Ti,Tj,Tk,Tl,Tm,Rz,Sa,Sb,Sc,Sd,Se,Sf,Sg,Si,Sj,Sk,Sl,Sm,Pl,Pm,Pn,Po,Pp,Pq,Pr,trivial⟩
theorem Cz:CallOk Tryz.prog 3:=.mk Tryz.func3 (by decide) rfl
theorem dJ:CallOk Tryz.prog 8:=.mk Tryz.func8 (by decide) rfl
theorem pE:CallOk Tryz.prog 9:=.mk Tryz.func9 (by decide) rfl
theorem As:CallOk Tryz.prog 10:=.mk Tryz.func10 (by decide) rfl
theorem iP:CallOk Tryz.prog 11:=.mk Tryz.func11 (by decide) rfl
theorem At:CallOk Tryz.prog 12:=.mk Tryz.func12 (by decide) rfl
theorem gN:CallOk Tryz.prog 13:=.mk Tryz.func13 (by decide) rfl
theorem jR:CallOk Tryz.prog 14:=.mk Tryz.func14 (by decide) rfl
theorem Au:CallOk Tryz.prog 15:=.mk Tryz.func15 (by decide) rfl
theorem gO:CallOk Tryz.prog 16:=.mk Tryz.func16 (by decide) rfl
theorem Mm:CallOk Tryz.prog 17:=.mk Tryz.func17 (by decide) rfl
theorem Av:CallOk Tryz.prog 18:=.mk Tryz.func18 (by decide) rfl
theorem Sn:CallOk Tryz.prog 19:=.mk Tryz.func19 (by decide) rfl
theorem So:CallOk Tryz.prog 20:=.mk Tryz.func20 (by decide) rfl
theorem fG:CallOk Tryz.prog 44:=.mk Tryz.func44 (by decide) rfl
theorem nU:CallOk Tryz.prog 45:=.mk Tryz.func45 (by decide) rfl
theorem pX:CallOk Tryz.prog 46:=.mk Tryz.func46 (by decide) rfl
theorem dB:CallOk Tryz.prog 47:=.mk Tryz.func47 (by decide) rfl
theorem Mn:CallOk Tryz.prog 48:=.mk Tryz.func48 (by decide) rfl
theorem Aw:CallOk Tryz.prog 49:=.mk Tryz.func49 (by decide) rfl
theorem mL:CallOk Tryz.prog 50:=.mk Tryz.func50 (by decide) rfl
theorem wE:CallOk Tryz.prog 51:=.mk Tryz.func51 (by decide) rfl
theorem Mo:CallOk Tryz.prog 52:=.mk Tryz.func52 (by decide) rfl
theorem Ax:CallOk Tryz.prog 53:=.mk Tryz.func53 (by decide) rfl
theorem wF:CallOk Tryz.prog 54:=.mk Tryz.func54 (by decide) rfl
theorem Mp:CallOk Tryz.prog 55:=.mk Tryz.func55 (by decide) rfl
theorem wG:CallOk Tryz.prog 56:=.mk Tryz.func56 (by decide) rfl
theorem Sp:CallOk Tryz.prog 57:=.mk Tryz.func57 (by decide) rfl
theorem Sq:CallOk Tryz.prog 58:=.mk Tryz.func58 (by decide) rfl
theorem Sr:CallOk Tryz.prog 59:=.mk Tryz.func59 (by decide) rfl
theorem kW:CallOk Tryz.prog 60:=.mk Tryz.func60 (by decide) rfl
theorem Gf:CallOk Tryz.prog 61:=.mk Tryz.func61 (by decide) rfl
theorem Ay:CallOk Tryz.prog 62:=.mk Tryz.func62 (by decide) rfl
theorem wH:CallOk Tryz.prog 63:=.mk Tryz.func63 (by decide) rfl
theorem Mq:CallOk Tryz.prog 64:=.mk Tryz.func64 (by decide) rfl
theorem Ss:CallOk Tryz.prog 65:=.mk Tryz.func65 (by decide) rfl
theorem Mr:CallOk Tryz.prog 66:=.mk Tryz.func66 (by decide) rfl
theorem St:CallOk Tryz.prog 67:=.mk Tryz.func67 (by decide) rfl
theorem Su:CallOk Tryz.prog 79:=.mk Tryz.func79 (by decide) rfl
theorem Ps:CallOk Tryz.prog 108:=.mk Tryz.func108 (by decide) rfl
theorem kO:CallOk Tryz.prog 110:=.mk Tryz.func110 (by decide) rfl
theorem uQ:CallOk Tryz.prog 111:=.mk Tryz.func111 (by decide) rfl
theorem Pt:CallOk Tryz.prog 113:=.mk Tryz.func113 (by decide) rfl
theorem Pu:CallOk Tryz.prog 114:=.mk Tryz.func114 (by decide) rfl
theorem Pv:CallOk Tryz.prog 115:=.mk Tryz.func115 (by decide) rfl
theorem mixed:Tryz.prog.follows .mixedOrders=true:=by kernel_rfl
section
variable {x:Cx}{g:Nat→FV}{ob ob':List (Option Ob)}{Q:cP}{ops:Array Oper}{rest:List Oper}{d:Nat}{op:Op}{ty:TypeId}{pos:String}{af:Array Edge}{gd:Option (Nat×Bool)}{C:Prop}{v:FV}
theorem o1 (k:WL x ops rest (aK g d v) ob Q) (hT:aU x.P ttab:=by exact aG) (hw:aO ops x.n g gd=some true:=by rfl) (h:lE ttab x.n g op=some (C,v):=by rfl) (hC:C:=by first | trivial | omega | (simp only[gG];omega)):WL x ops (⟨some d,op,ty,pos,af,gd⟩::rest) g ob Q:=Tc hT hw h hC k
theorem jS {t:Nat}{i:TI}{a:Operand}{l:List Tr}{of:Nat}(us:List Tr) (hl:(l.drop of).take us.length=us) (k:WL x ops rest (aK g d v) ob Q) (hT:aU x.P ttab:=by exact aG) (hw:aO ops x.n g gd=some true:=by rfl) (hi:aL ttab t=some i:=by rfl) (h:lk x.n g a=.one (.ef l of):=by rfl) (hv:vL i us=some v:=by rfl):WL x ops (⟨some d,.load t a,ty,pos,af,gd⟩::rest) g ob Q:=Pi hT hw hi h hl hv k
theorem al {t:Nat}(key:Nat) (k:WL x ops rest (aK g d (.one (.pt key 0))) ob' Q) (hT:aU x.P ttab:=by exact aG) (hw:aO ops x.n g gd=some true:=by rfl) (h:Am ttab t key ob=some ob':=by rfl):WL x ops (⟨some d,.alloc t,ty,pos,af,gd⟩::rest) g ob Q:=Ru hT hw h k
theorem st {t:Nat}{i:TI}{a b:Operand}(k:WL x ops rest g ob' Q) (hT:aU x.P ttab:=by exact aG) (hw:aO ops x.n g gd=some true:=by rfl) (hi:aL ttab t=some i:=by rfl) (h:sD i ob (lk x.n g b) (lk x.n g a)=some ob':=by rfl):WL x ops (⟨none,.store t a b,ty,pos,af,gd⟩::rest) g ob Q:=Rw hT hw hi h k
theorem bs {t len:Nat}{ps:Array (Nat×Operand)}(key:Nat) (k:WL x ops rest (aK g d (.one (.sl key 0 len))) ob' Q) (hT:aU x.P ttab:=by exact aG) (hw:aO ops x.n g gd=some true:=by rfl) (h:sM ttab x.n g t len key ps.toList ob=some ob':=by rfl):WL x ops (⟨some d,.buildSlice t len ps,ty,pos,af,gd⟩::rest) g ob Q:=Rx hT hw h k
theorem dC {o:Oper}(k:WL x ops rest (aK g d (.one (tv undef))) ob Q) (hw:aO ops x.n g o.guard=some false:=by rfl) (hd:o.dst=some d:=by rfl):WL x ops (o::rest) g ob Q:=Rs hw hd k
theorem ca {fresh:Bool}{f:FuncId}{args:List FV}{r:FV}{aa:Array Operand}{ats:Array TypeId}(hS:aJ fresh x.P f [] args (bC r)) (hf:CallOk x.P f) (ha:AL fresh x g ob aa.toList args) (v:FV) (k:WL x ops rest (aK g d v) ob Q) (hw:aO ops x.n g gd=some true:=by rfl) (hv:tR r=v:=by rfl):
  WL x ops (⟨some d,.call ⟨.value (.func f),aa,ats⟩,ty,pos,af,gd⟩::rest) g ob Q:=Mi hw hS hf ha hv k
variable {late:Nat→Bool}{K fr:List Nat}{on:Bool}{fuel:Nat}{listed:Array Bool}
theorem dv (i:Nat) (k:WD x ops Q late K fr true fuel (listed.setIfInBounds i true) (aK g d v) ob) (hT:aU x.P ttab:=by exact aG) (hi:ops[i]? =some ⟨some d,op,ty,pos,af,gd⟩:=by rfl) (hst:jO ops late listed i=true:=by kernel_rfl) (hw:aO ops x.n g gd=some true:=by rfl) (h:lE ttab x.n (gB fr g) op=some (C,v):=by rfl) (hC:C:=by first | trivial | omega | (simp only[gG];omega)) (hg:lE ttab x.n g op=some (C,v):=by rfl):WD x ops Q late K fr true (fuel+1) listed g ob:=dt i hT hi hst hw h hC hg k
theorem df (i:Nat) (k:WD x ops Q late K (d::fr) true fuel (listed.setIfInBounds i true) (aK g d v) ob) (hT:aU x.P ttab:=by exact aG) (hi:ops[i]? =some ⟨some d,op,ty,pos,af,gd⟩:=by rfl) (hst:jO ops late listed i=true:=by kernel_rfl) (hw:aO ops x.n g gd=some true:=by rfl) (h:lE ttab x.n g op=some (C,v):=by rfl) (hC:C:=by first | trivial | omega | (simp only[gG];omega)):WD x ops Q late K fr true (fuel+1) listed g ob:=Td i hT hi hst hw h hC k
theorem eK {t:Nat}{ti:TI}{a:Operand}{l:List Tr}{of:Nat}(i:Nat) (us:List Tr) (hl:(l.drop of).take us.length=us) (k:WD x ops Q late K fr true fuel (listed.setIfInBounds i true) (aK g d v) ob) (hT:aU x.P ttab:=by exact aG) (hi:ops[i]? =some ⟨some d,.load t a,ty,pos,af,gd⟩:=by rfl) (hst:jO ops late listed i=true:=by kernel_rfl) (hw:aO ops x.n g gd=some true:=by rfl) (hti:aL ttab t=some ti:=by rfl) (hlk:lk x.n (gB fr g) a=.one (.ef l of):=by rfl) (hv:vL ti us=some v:=by rfl):WD x ops Q late K fr true (fuel+1) listed g ob:=Te i hT hi hst hw hti hlk hl hv k
theorem lK {fresh:Bool}{f:FuncId}{args:List FV}{r:FV}{aa:Array Operand}{ats:Array TypeId}(i:Nat) (hi:ops[i]? =some ⟨some d,.call ⟨.value (.func f),aa,ats⟩,ty,pos,af,gd⟩) (hS:aJ fresh x.P f [] args (bC r)) (hf:CallOk x.P f) (ha:AL fresh x g ob aa.toList args) (v:FV) (k:WD x ops Q late K (d::fr) true fuel (listed.setIfInBounds i true) (aK g d v) ob) (hr:Region.ready .any ops listed=[i]:=by kernel_rfl) (hw:aO ops x.n g gd=some true:=by rfl) (hv:tR r=v:=by rfl):WD x ops Q late K fr true (fuel+1) listed g ob:=Mk i hr hi hw hS hf ha hv k
theorem Tn {fresh:Bool}{f:FuncId}{args:List FV}{r:FV}{aa:Array Operand}{ats:Array TypeId}(i:Nat) (hi:ops[i]? =some ⟨some d,.call ⟨.value (.func f),aa,ats⟩,ty,pos,af,gd⟩) (hS:aJ fresh x.P f [] args (bC r)) (hf:CallOk x.P f) (ha:AL fresh x g ob aa.toList args) (v:FV) (k:WD x ops Q late K (d::fr) true fuel (listed.setIfInBounds i true) (aK g d v) ob) (hw:aO ops x.n g gd=some true:=by rfl) (hv:tR r=v:=by rfl):WO x ops Q late K fr true fuel listed i g ob:=Ml i hi hw hS hf ha hv k
theorem dst {t:Nat}{ti:TI}{a b:Operand}(i:Nat) (k:WD x ops Q late K fr false fuel (listed.setIfInBounds i true) g ob') (hT:aU x.P ttab:=by exact aG) (hr:Region.ready .any ops listed=[i]:=by kernel_rfl) (hi:ops[i]? =some ⟨none,.store t a b,ty,pos,af,gd⟩:=by rfl) (hw:aO ops x.n g gd=some true:=by rfl) (hti:aL ttab t=some ti:=by rfl) (h:sD ti ob (lk x.n g b) (lk x.n g a)=some ob':=by rfl) (hl:late i=true:=by rfl):WD x ops Q late K fr on (fuel+1) listed g ob:=Ry i hr hi hw hT hti h hl k
theorem pF {fresh:Bool}{f:FuncId}{args:List FV}{r:FV}{os:List Ob}{aa:Array Operand}{ats:Array TypeId}(key:Nat) (hS:aJ fresh x.P f [] args (bC r)) (hf:CallOk x.P f) (ha:AL fresh x g ob aa.toList args) (k:WL x ops rest (aK g d v) (ob++os.map some) Q) (hw:aO ops x.n g gd=some true:=by rfl) (hk:dS ob key=true:=by rfl) (hb:nT key r=some (v,os):=by rfl):
  WL x ops (⟨some d,.call ⟨.value (.func f),aa,ats⟩,ty,pos,af,gd⟩::rest) g ob Q:=Je hw hS hf ha hk hb k
theorem mY (h:Q .normal g ob) (hr:Region.ready .any ops listed=[]:=by kernel_rfl):WD x ops Q late K fr on fuel listed g ob:=dz hr h
end
theorem Da {β:Type}:∀{o:Nat}{l:List AV}{a:AV}{r:List AV}{k:List AV→Option β},l.drop o=a::r→dp o l k=k (a::r)
 | 0,l,a,r,k,h=>by rw[List.drop_zero]at h;subst h;rfl
 | o+1,[],a,r,k,h=>by simp at h
 | o+1,b::l,a,r,k,h=>by
  rw[List.drop_succ_cons]at h
  exact Da (o:=o) h
theorem Db {ob:List (Option Ob)}{i:TI}{k o t z:Nat}{l:List AV}{a:AV}(ho:bI ob k=some ⟨t,z,l⟩) (hx:l[o]? =some a) (ha:i.agg=false) (hr:jL a=true):pD ob i (.one (.pt k o))=some (True,.one a):=by
 obtain⟨h1,h2⟩:=List.getElem?_eq_some_iff.1 hx
 have h3:l.drop o=a::l.drop (o+1):=by rw[List.drop_eq_getElem_cons h1,h2]
 unfold pD
 dsimp only
 rw[ho]
 dsimp only
 unfold Mb
 rw[Da h3,ha]
 simp[vK,eL,hr,ev]
section
variable {x:Cx}{g:Nat→FV}{ob ob':List (Option Ob)}{Q:cP}{ops:Array Oper}{rest:List Oper}{d:Nat}{ty:TypeId}{pos:String}{af:Array Edge}{gd:Option (Nat×Bool)}{T:List (Nat×TI)}
theorem Pw {t e by_ k m:Nat}{ti:Bool}{ts0:Nat}{z0:List Value}{kk k1 k2:IntKind}{a b:Operand}(hT:aU x.P T) (ht:aL T t=some ⟨ti,ts0,z0,.sl e 1 by_ (.int kk 0)⟩) (ha:lk x.n g a=.one (tv (.int k1 (m:Int)))) (hb:lk x.n g b=.one (tv (.int k2 (m:Int)))) (hby:by_≤16) (hm:m≤8796093022208) (hk:dS ob k=true):
  OS x ⟨some d,.makeSlice t a b,ty,pos,af,gd⟩ g ob [] (fun g' ob2=>g'=aK g d (.one (.sl k 0 m))∧ob2=ob++[some ⟨e,1,(List.replicate m (Value.int kk 0)).map tv⟩]):=by
 obtain⟨_,hel⟩:=(bF hT ht).2.2.2
 obtain⟨hu,i,hi,hz,hsize,hby',hzs,hsz⟩:=hel
 subst hby'
 have hk:=Nat.eq_of_beq_eq_true hk
 subst hk
 intro cs ts W hR K Q' kk'
 have e1:=hR.lk a
 rw[ha]at e1
 have e1:=aE e1
 have e2:=hR.lk b
 rw[hb]at e2
 have e2:=aE e2
 have hmul:i.bytes*m≤16*8796093022208:=Nat.mul_le_mul hby hm
 obtain⟨w',hrun,h1,h2⟩:=run_make_full (P:=x.P) W 0 t e i (.int kk 0) 1 hu hi hz hsize k1 k2 m (by omega) (by unfold maxLen;omega) (Nat.zero_le _)
 have hrun':(execOp (Act.eval ⟨ts,[]⟩) ⟨some d,.makeSlice t a b,ty,pos,af,gd⟩).run x.P W=.ok (.value (.slice (some ⟨W.heap.size,0,none⟩) m m)) w':=by
  simp[execOp,e1,e2,hrun]
 have e0:(madeCells (Value.int kk 0).cells (m*1)).toList=List.replicate m (.int kk 0):=by
  rw[Nat.mul_one]
  show(madeCells #[Value.int kk 0] m).toList=_
  rw[toList_madeCells_one]
 rw[e0]at h1
 generalize hus:List.replicate m (Value.int kk 0)=us at h1 kk'
 have hbl:Below W.heap.size W w':=(Below.refl _ _).grown h2 (Nat.le_refl _) (fun k hk=>by cases hk)
 rcases h1.2 with⟨hh,_⟩ | ⟨g1,cap,cur,hv,_,hg,hnc,hcm,hcs,htake⟩
 ·injection hh with h3;cases h3
 injection hv with q1 q2 q3
 injection q1 with q1
 injection q1 with q1
 subst q1 q3
 have hlt:W.heap.size<w'.heap.size:=(Array.getElem?_eq_some_iff.1 hg).1
 have hcur:cur.toList=us:=by
  have h9:cur.toList.length=m*1:=by simpa using hcs
  rw[←htake,List.take_of_length_le (by omega)]
 have hS:∀b∈(aC (some ⟨e,1,us.map tv⟩) ⟨some W.heap.size,m,us.map .w⟩).S,W.heap.size≤b∧b<w'.heap.size:=by
  intro b hb
  simp[aC,gM]at hb
  subst hb
  exact⟨Nat.le_refl _,hlt⟩
 have hown:∀b∈bJ (ob++[some ⟨e,1,us.map tv⟩]) (cs++[⟨some W.heap.size,m,us.map .w⟩]),b∈bJ ob cs∨W.heap.size≤b:=by
  intro b hb
  unfold bJ aA at hb
  rw[List.zipWith_append hR.len,List.flatMap_append,List.mem_append]at hb
  rcases hb with hb | hb
  ·exact .inl hb
  exact .inr (hS b (by simpa using hb)).1
 have m1:RelC x g (ob++[some ⟨e,1,us.map tv⟩]) (cs++[⟨some W.heap.size,m,us.map .w⟩]) ts w':=by
  refine hR.push hbl _ _ ?_ hS (by simp[aC,gM]) ?_ (fun e=>by cases e)
  ·have hul:us.length=m:=by rw[←hus,List.length_replicate]
   simp only[aC,mG]
   refine⟨⟨[],?_,by simp[hul]⟩,mF _,hcm⟩
   rw[List.append_nil,hg,←hcur]
  exact lF (gK _) (nI _)
 refine cC hrun' (kk' _ _ _ _ _ ⟨rfl,rfl⟩ (m1.put d ?_) ((Aft.mk .app (fun k _ hk=>jK hk) hbl.size (fun b hlt _=>hbl.block b hlt) hown (fun _ _=>rfl):Aft [] (some d) ob cs ts W _ _ ts w').then_put _))
 refine dY ?_
 simp only[AR]
 rw[hR.len,dV]
 exact⟨by simp[hR.len],0,m,rfl,Nat.le_refl _,hcm,fun _=>rfl,fun _=>rfl⟩
inductive FzN (key:Nat):List AV→List AV→Prop
 | nil:FzN key [] []
 | id {a:AV}{l l':List AV}(h:FzN key l l'):FzN key (a::l) (a::l')
 | sl {l l':List AV}(h:FzN key l l'):FzN key (tv (.slice none 0 0)::l) (.sl key 0 0::l')
theorem FzN.ok {key:Nat}{W:World}{N:Nat→Prop}{cs:List Co}(hk:key<cs.length) (hb:(co cs key).b=none):∀{l l':List AV},FzN key l l'→∀{ys:List VT},aM W N cs l ys→aM W N cs l' ys
 | _,_,.nil,ys,h=>h
 | _,_,.id h',[],h=>by simp only[aM]at h
 | _,_,.id h',y::ys,h=>by
  simp only[aM]at h⊢
  exact⟨h.1,FzN.ok hk hb h' h.2⟩
 | _,_,.sl h',[],h=>by simp only[aM]at h
 | _,_,.sl h',y::ys,h=>by
  simp only[aM]at h⊢
  refine⟨?_,FzN.ok hk hb h' h.2⟩
  have h1:=h.1
  simp only[tv,CR,OR]at h1
  subst h1
  simp only[CR,AR,hb]
  exact⟨hk,trivial,trivial,trivial⟩
theorem FzN.nl {key:Nat}:∀{l l':List AV},FzN key l l'→(l=[]↔l'=[])
 | _,_,.nil=>Iff.rfl
 | _,_,.id h'=>by simp
 | _,_,.sl h'=>by simp
theorem mk {t e by_ m:Nat}{ti:Bool}{ts0:Nat}{z0:List Value}{kk k1 k2:IntKind}{a b:Operand}(key:Nat) (hm:m≤8796093022208){l:List AV}(hl:(List.replicate m (Value.int kk 0)).map tv=l) (k:WL x ops rest (aK g d (.one (.sl key 0 m))) (ob++[some ⟨e,1,l⟩]) Q) (hT:aU x.P ttab:=by exact aG) (hw:aO ops x.n g gd=some true:=by rfl)
  (ht:aL ttab t=some ⟨ti,ts0,z0,.sl e 1 by_ (.int kk 0)⟩:=by rfl) (ha:lk x.n g a=.one (tv (.int k1 (m:Int))):=by rfl) (hb:lk x.n g b=.one (tv (.int k2 (m:Int))):=by rfl) (hby:by_≤16:=by decide) (hk:dS ob key=true:=by rfl):WL x ops (⟨some d,.makeSlice t a b,ty,pos,af,gd⟩::rest) g ob Q:=by
 subst hl
 exact eU (Pw hT ht ha hb hby hm hk) hw (by rintro _ _ ⟨rfl,rfl⟩;exact k)
theorem Rg {t key o t' z':Nat}{ti:TI}{a b:Operand}{l l' us:List AV}(hl:cD l o us=l') (hle:o+us.length≤l.length) (k:WL x ops rest g (ob.set key (some ⟨t',z',l'⟩)) Q) (hT:aU x.P ttab:=by exact aG) (hw:aO ops x.n g gd=some true:=by rfl) (hti:aL ttab t=some ti:=by rfl) (hlk:lk x.n g a=.one (.pt key o):=by rfl) (ho:bI ob key=some ⟨t',z',l⟩:=by rfl)
  (hb:pR (lk x.n g b)=some us:=by rfl) (hlo:cE us=true:=by rfl) (hsz:Nat.beq us.length ti.size=true:=by rfl):WL x ops (⟨none,.store t a b,ty,pos,af,gd⟩::rest) g ob Q:=
 eU (qO hT hti hlk hb hlo hsz ho hle hl) hw (by rintro _ _ ⟨rfl,rfl⟩;exact k)
variable {late:Nat→Bool}{K fr:List Nat}{on:Bool}{fuel:Nat}{listed:Array Bool}
theorem Ms {t key o t' z':Nat}{ti:TI}{a:Operand}{l:List AV}{v:AV}(i:Nat) (hx:l[o]? =some v) (k:WD x ops Q late K fr true fuel (listed.setIfInBounds i true) (aK g d (.one v)) ob) (hT:aU x.P ttab:=by exact aG) (hi:ops[i]? =some ⟨some d,.load t a,ty,pos,af,gd⟩:=by rfl) (hst:jO ops late listed i=true:=by kernel_rfl) (hw:aO ops x.n g gd=some true:=by rfl) (hti:aL ttab t=some ti:=by rfl)
  (hlk:lk x.n g a=.one (.pt key o):=by rfl) (hK:K.contains key=true:=by rfl) (ho:bI ob key=some ⟨t',z',l⟩:=by rfl) (ha:ti.agg=false:=by rfl) (hr:jL v=true:=by rfl):WD x ops Q late K fr true (fuel+1) listed g ob:=dl i hT hi hst hw hti hlk hK (Db ho hx ha hr) k
theorem Az {t key o t' z':Nat}{ti:TI}{a b:Operand}{l l' us:List AV}(i:Nat) (hl:cD l o us=l') (hle:o+us.length≤l.length) (k:WD x ops Q late K fr false fuel (listed.setIfInBounds i true) g (ob.set key (some ⟨t',z',l'⟩))) (hT:aU x.P ttab:=by exact aG) (hr:Region.ready .any ops listed=[i]:=by kernel_rfl) (hi:ops[i]? =some ⟨none,.store t a b,ty,pos,af,gd⟩:=by rfl) (hw:aO ops x.n g gd=some true:=by rfl) (hti:aL ttab t=some ti:=by rfl)
  (hlk:lk x.n g a=.one (.pt key o):=by rfl) (ho:bI ob key=some ⟨t',z',l⟩:=by rfl) (hb:pR (lk x.n g b)=some us:=by rfl) (hlo:cE us=true:=by rfl) (hsz:Nat.beq us.length ti.size=true:=by rfl) (hlate:late i=true:=by rfl):WD x ops Q late K fr on (fuel+1) listed g ob:=by
 refine Cp i hr hi hw (qO (ty:=ty) (pos:=pos) (af:=af) (gd:=gd) hT hti hlk hb hlo hsz ho hle hl) false (fun h=>by cases h) (fun h=>by rw[hlate]at h;cases h) (fun h=>by cases h) fun g' ob' hR=>?_
 obtain⟨rfl,rfl⟩:=hR
 exact k
end
theorem Loc.cut {M:List Nat}{w W:World}{L L':List Res}{F:List Sh}(h:Loc M w W L F) (hc:∀b,(L'.flatMap Res.S).count b≤(L.flatMap Res.S).count b) (hφ:∀r∈L',r.φ W):Loc M w W L' F:=by
 have hin:∀b,b∈L'.flatMap Res.S→b∈L.flatMap Res.S:=fun b hb=>List.count_pos_iff.1 (Nat.lt_of_lt_of_le (List.count_pos_iff.2 hb) (hc b))
 exact⟨h.chg,hφ,fun b hb=>h.blk b (hin b hb),List.nodup_iff_count.2 fun b=>Nat.le_trans (hc b) (List.nodup_iff_count.1 h.nd b),fun q hq=>q.mono _ _ _ (fun b hb=>⟨hb.1,fun hm=>hb.2 (hin b hm)⟩) (h.shr q hq)⟩
section
variable {x:Cx}{g g':Nat→FV}{ob ob':List (Option Ob)}{cs cs':List Co}{ts ts':Array Value}{W W':World}{T:List (Nat×TI)}{Q:cP}{ops:Array Oper}{rest:List Oper}
theorem Same.set {k:Nat}{c:Co}(hk:k<cs.length) (hb:c.b=(co cs k).b) (hc:c.c=(co cs k).c):Same cs (cs.set k c):=⟨by simp,fun j hj=>by
 rw[nH hk]
 split
 ·rename_i e
  subst e
  exact⟨hb,hc⟩
 exact⟨rfl,rfl⟩⟩
end
def eZ (ob:List (Option Ob)) (K0:List Nat):List Nat→List Lt→Prop
 | [],l=>l=[]
 | _::_,[]=>False
 | k::K,a::l=>Cq K0 (bI ob k) a.ob∧eZ ob K0 K l
def cN (K0:List Nat):List Lt→List (Option Ob)→Prop
 | [],l=>l=[]
 | _::_,[]=>False
 | a::l,o::os=>Cq K0 o a.ob∧cN K0 l os
def bK:List (Option Ob)→List Nat→List (Option Ob)→List (Option Ob)
 | ob,k::K,a::l=>bK (ob.set k a) K l
 | ob,_,_=>ob
def bQ:List Co→List Nat→List Co→List Co
 | cs,k::K,c::l=>bQ (cs.set k c) K l
 | cs,_,_=>cs
def cK (K:List Nat):List (Option Ob):=K.map fun _=>none
def tX (n:Nat) (g:Nat→FV) (K:List Nat):List Operand→List FV→Prop
 | [],aa=>aa=[]
 | _::_,[]=>False
 | o::os,a::aa=>pS K a=some (lk n g o)∧tX n g K os aa
def Rh (x:Cx) (g:Nat→FV) (cf:Operand) (f:FuncId) (fst caps:List Tr):Prop:=∀ob cs ts W,RelC x g ob cs ts W→∃us0 us,Act.eval ⟨ts,[]⟩ cf=.func (.func f) us0.toArray us.toArray∧FRL W (x.fr W ob cs) fst us0∧FRL W (x.fr W ob cs) caps us
def Hu:Tr→FV
 | .a l=>.agg (l.map .t)
 | c=>.one (.t c)
def iQ (caps:List Tr):List FV:=caps.map Hu
section
variable {x:Cx}{g g':Nat→FV}{ob ob':List (Option Ob)}{cs cs':List Co}{ts ts':Array Value}{W W':World}
theorem Px (f:FuncId):Rh x g (.func f) f [] []:=fun _ _ _ _ _=>⟨[],[],rfl,by simp[FRL],by simp[FRL]⟩
theorem yW {N:Nat→Prop}:∀{l:List Tr}{us:List Value},FRL W N l us→ARL W N cs (l.map .t) us
 | [],us,h=>by simpa[FRL,ARL]using h
 | y::l,[],h=>by simp only[FRL]at h
 | y::l,u::us,h=>by
  simp only[FRL]at h
  simp only[List.map_cons,ARL,AR]
  exact⟨h.1,yW h.2⟩
theorem dN:∀{K:List Nat}{l:List (Option Ob)}{ob:List (Option Ob)},(bK ob K l).length=ob.length
 | [],l,ob=>by simp[bK]
 | k::K,[],ob=>by simp[bK]
 | k::K,a::l,ob=>by simp[bK,dN (K:=K)]
theorem gE:∀{K:List Nat}{l:List Co}{cs:List Co},(bQ cs K l).length=cs.length
 | [],l,cs=>by simp[bQ]
 | k::K,[],cs=>by simp[bQ]
 | k::K,a::l,cs=>by simp[bQ,gE (K:=K)]
theorem eI:∀{K:List Nat}{l:List (Option Ob)}{ob:List (Option Ob)}{j:Nat},j∉K→(bK ob K l)[j]? =ob[j]?
 | [],l,ob,j,_=>by simp[bK]
 | k::K,[],ob,j,_=>by simp[bK]
 | k::K,a::l,ob,j,h=>by
  simp only[List.mem_cons,not_or]at h
  simp only[bK]
  rw[eI h.2,List.getElem?_set_ne (fun e=>h.1 e.symm)]
theorem gX:∀{K:List Nat}{l:List Co}{cs:List Co}{j:Nat},j∉K→co (bQ cs K l) j=co cs j
 | [],l,cs,j,_=>by simp[bQ]
 | k::K,[],cs,j,_=>by simp[bQ]
 | k::K,a::l,cs,j,h=>by
  simp only[List.mem_cons,not_or]at h
  simp only[bQ]
  rw[gX h.2]
  unfold co
  rw[List.getElem?_set_ne (fun e=>h.1 e.symm)]
theorem gY:∀{K:List Nat}{l:List (Option Ob)}{ob:List (Option Ob)}{i k:Nat},K.Nodup→l.length=K.length→K[i]? =some k→k<ob.length→(bK ob K l)[k]? =l[i]?
 | [],l,ob,i,k,_,_,h,_=>by simp at h
 | k0::K,[],ob,i,k,_,hl,_,_=>by simp at hl
 | k0::K,a::l,ob,0,k,hn,hl,h,hk=>by
  simp at h
  subst h
  have hn:=List.nodup_cons.1 hn
  simp only[bK]
  rw[eI hn.1,List.getElem?_set_self hk]
  rfl
 | k0::K,a::l,ob,i+1,k,hn,hl,h,hk=>by
  have hn:=List.nodup_cons.1 hn
  simp only[bK]
  exact gY hn.2 (by simpa using hl) (by simpa using h) (by simpa using hk)
theorem yX:∀{K:List Nat}{l:List Co}{cs:List Co}{i k:Nat},K.Nodup→l.length=K.length→K[i]? =some k→k<cs.length→co (bQ cs K l) k=co l i
 | [],l,cs,i,k,_,_,h,_=>by simp at h
 | k0::K,[],cs,i,k,_,hl,_,_=>by simp at hl
 | k0::K,a::l,cs,0,k,hn,hl,h,hk=>by
  simp at h
  subst h
  have hn:=List.nodup_cons.1 hn
  simp only[bQ]
  rw[gX hn.1]
  simp[co,List.getElem?_set_self hk]
 | k0::K,a::l,cs,i+1,k,hn,hl,h,hk=>by
  have hn:=List.nodup_cons.1 hn
  simp only[bQ]
  rw[yX hn.2 (by simpa using hl) (by simpa using h) (by simpa using hk)]
  simp[co]
theorem qR {K0:List Nat}:∀{K:List Nat}{l:List Lt},eZ ob K0 K l→l.length=K.length
 | [],l,h=>by
  simp only[eZ]at h
  simp[h]
 | k::K,[],h=>by simp only[eZ]at h
 | k::K,a::l,h=>by
  simp only[eZ]at h
  simp[qR h.2]
theorem iW {K0:List Nat}:∀{K:List Nat}{l:List Lt}{i k:Nat},eZ ob K0 K l→K[i]? =some k→∃(a:Lt) (l':List AV),l[i]? =some a∧renL K0 a.l=some l'∧ob[k]? =some (some ⟨a.t,a.z,l'⟩)
 | [],l,i,k,_,h=>by simp at h
 | k0::K,[],i,k,h,_=>by simp only[eZ]at h
 | k0::K,a::l,0,k,h,hk=>by
  simp only[eZ]at h
  simp at hk
  subst hk
  obtain⟨⟨l',h1,h2⟩,_⟩:=h
  exact⟨a,l',rfl,h1,bS h2⟩
 | k0::K,a::l,i+1,k,h,hk=>by
  simp only[eZ]at h
  exact iW (i:=i) h.2 (by simpa using hk)
theorem qS {K0:List Nat}:∀{l:List Lt}{os:List (Option Ob)},cN K0 l os→os.length=l.length
 | [],l,h=>by
  simp only[cN]at h
  simp[h]
 | k::K,[],h=>by simp only[cN]at h
 | k::K,a::l,h=>by
  simp only[cN]at h
  simp[qS h.2]
theorem mM {K0:List Nat}:∀{l:List Lt}{os:List (Option Ob)}{i:Nat}{a:Lt},cN K0 l os→l[i]? =some a→∃l',renL K0 a.l=some l'∧os[i]? =some (some ⟨a.t,a.z,l'⟩)
 | [],_,_,_,_,h=>by simp at h
 | b::l,[],_,_,h,_=>by simp only[cN]at h
 | b::l,o::os,0,a,h,ha=>by
  simp only[cN]at h
  simp at ha
  subst ha
  obtain⟨⟨l',h1,h2⟩,_⟩:=h
  exact⟨l',h1,by rw[h2];rfl⟩
 | b::l,o::os,i+1,a,h,ha=>by
  simp only[cN]at h
  obtain⟨l',h1,h2⟩:=mM (i:=i) h.2 (by simpa using ha)
  exact⟨l',h1,by simpa using h2⟩
def wI (K:List Nat) (cl cs2:List Co):Prop:=∀i k,K[i]? =some k→k<cs2.length∧co cs2 k=co cl i
mutual
theorem Hv {K:List Nat}{N:Nat→Prop}{cl cs2:List Co}(hc:wI K cl cs2):∀(a a':AV) (u:Value),dA K a=some a'→AR W N cl a u→AR W N cs2 a' u
 | .t y,a',u,h,hr=>by
  simp only[dA,Option.some.injEq]at h
  subst h
  simpa only[AR]using hr
 | .sl k o n,a',u,h,hr=>by
  simp only[dA]at h
  split at h
  ·rename_i t ht
   simp only[Option.some.injEq]at h
   subst h
   simp only[AR]at hr⊢
   rw[(hc k t ht).2]
   exact⟨(hc k t ht).1,hr.2⟩
  cases h
 | .pt k o,a',u,h,hr=>by
  simp only[dA]at h
  split at h
  ·rename_i t ht
   simp only[Option.some.injEq]at h
   subst h
   simp only[AR]at hr⊢
   rw[(hc k t ht).2]
   exact hr
  cases h
 | .ef l o,a',u,h,hr=>by
  simp only[dA,Option.some.injEq]at h
  subst h
  simpa only[AR]using hr
 | .fn f a b,a',u,h,hr=>by
  simp only[dA]at h
  split at h
  ·rename_i a1 b1 h1 h2
   simp only[Option.some.injEq]at h
   subst h
   simp only[AR]at hr⊢
   obtain⟨us,vs,e,r1,r2⟩:=hr
   exact⟨us,vs,e,ARL_to hc a a1 us h1 r1,ARL_to hc b b1 vs h2 r2⟩
  cases h
theorem ARL_to {K:List Nat}{N:Nat→Prop}{cl cs2:List Co}(hc:wI K cl cs2):∀(l l':List AV) (us:List Value),renL K l=some l'→ARL W N cl l us→ARL W N cs2 l' us
 | [],l',us,h,hr=>by
  simp only[renL,Option.some.injEq]at h
  subst h
  simpa only[ARL]using hr
 | a::l,l',us,h,hr=>by
  simp only[renL]at h
  split at h
  ·rename_i a1 l1 h1 h2
   simp only[Option.some.injEq]at h
   subst h
   cases us with
   | nil=>simp only[ARL]at hr
   | cons u us=>
    simp only[ARL]at hr⊢
    exact⟨Hv hc a a1 u h1 hr.1,ARL_to hc l l1 us h2 hr.2⟩
  cases h
end
theorem Mt {N:Nat→Prop}{a:AV}{u:Value}(h:∀z,a≠.t z):CR W N cs a (.w u)↔AR W N cs a u:=by
 cases a with
 | t z=>exact absurd rfl (h z)
 | _=>simp only[CR]
theorem Mu {K:List Nat}{a a':AV}(h:dA K a=some a') (hn:∀z,a≠.t z):∀z,a'≠.t z:=by
 intro z e
 subst e
 cases a with
 | t z=>exact hn z rfl
 | ef l o=>simp[dA]at h
 | _=>
  simp only[dA]at h
  split at h <;> simp at h
theorem Py {K:List Nat}{N:Nat→Prop}{cl cs2:List Co}(hc:wI K cl cs2){a a':AV}{y:VT}(h:dA K a=some a') (hr:CR W N cl a y):CR W N cs2 a' y:=by
 by_cases ht:∃z,a=.t z
 ·obtain⟨z,rfl⟩:=ht
  simp only[dA,Option.some.injEq]at h
  subst h
  simpa only[CR]using hr
 have hn:∀z,a≠.t z:=fun z e=>ht ⟨z,e⟩
 cases y with
 | w u=>exact(Mt (Mu h hn)).2 (Hv hc _ _ u h ((Mt hn).1 hr))
 | _=>
  cases a with
  | t z=>exact absurd rfl (hn z)
  | _=>simp only[CR]at hr
theorem Dc {K:List Nat}{N:Nat→Prop}{cl cs2:List Co}(hc:wI K cl cs2):∀{l l':List AV}{ys:List VT},renL K l=some l'→aM W N cl l ys→aM W N cs2 l' ys
 | [],l',ys,h,hr=>by
  simp only[renL,Option.some.injEq]at h
  subst h
  simpa only[aM]using hr
 | a::l,l',ys,h,hr=>by
  simp only[renL]at h
  split at h
  ·rename_i a1 l1 h1 h2
   simp only[Option.some.injEq]at h
   subst h
   cases ys with
   | nil=>simp only[aM]at hr
   | cons y ys=>
    simp only[aM]at hr⊢
    exact⟨Py hc h1 hr.1,Dc hc h2 hr.2⟩
  cases h
theorem wJ {K:List Nat}{l l':List AV}(h:renL K l=some l'):l=[]↔l'=[]:=by
 cases l with
 | nil=>
  simp only[renL,Option.some.injEq]at h
  simp[←h]
 | cons a l=>
  simp only[renL]at h
  split at h
  ·simp only[Option.some.injEq]at h
   simp[←h]
  cases h
theorem sR (b:Nat):∀{K:List Nat}{l:List (Option Ob)}{lc:List Co}{ob:List (Option Ob)}{cs:List Co},K.Nodup→l.length=K.length→lc.length=K.length→ob.length=cs.length→(∀k∈K,k<ob.length)→
  (bJ (bK ob K l) (bQ cs K lc)).count b=(bJ (bK ob K (cK K)) cs).count b+((aA l lc).flatMap Res.S).count b
 | [],l,lc,ob,cs,_,h1,h2,_,_=>by
  obtain rfl:=List.eq_nil_of_length_eq_zero h1
  obtain rfl:=List.eq_nil_of_length_eq_zero h2
  simp[bK,bQ,cK,aA]
 | k::K,[],lc,ob,cs,_,h1,h2,_,_=>by simp at h1
 | k::K,a::l,[],ob,cs,_,h1,h2,_,_=>by simp at h2
 | k::K,a::l,c::lc,ob,cs,hn,h1,h2,h3,h4=>by
  have hn':=List.nodup_cons.1 hn
  have hk:=h4 k (by simp)
  have ih1:=sR b (K:=K) (l:=l) (lc:=lc) (ob:=ob.set k a) (cs:=cs.set k c) hn'.2 (by simpa using h1) (by simpa using h2) (by simpa using h3) (fun j hj=>by simpa using h4 j (List.mem_cons_of_mem _ hj))
  have e1:cK (k::K)=none::cK K:=rfl
  simp only[bK,bQ,e1,aA,List.zipWith_cons_cons,List.flatMap_cons,List.count_append]
  unfold aA at ih1
  rw[ih1]
  -- the k-th of the others
  have e2:bK (ob.set k none) K (cK K)=(bK (ob.set k a) K (cK K)).set k none:=by
   apply List.ext_getElem?
   intro j
   by_cases hj:j∈K
   ·obtain⟨i,hi⟩:=List.mem_iff_getElem?.1 hj
    have hkj:k≠j:=fun e=>hn'.1 (e▸hj)
    rw[List.getElem?_set_ne hkj,gY hn'.2 (by simp[cK]) hi (by simpa using h4 j (List.mem_cons_of_mem _ hj)),gY hn'.2 (by simp[cK]) hi (by simpa using h4 j (List.mem_cons_of_mem _ hj))]
   rw[eI hj]
   by_cases hkj:k=j
   ·subst hkj
    rw[List.getElem?_set_self hk,List.getElem?_set_self (by rw[dN];simpa using hk)]
   rw[List.getElem?_set_ne hkj,List.getElem?_set_ne hkj,eI hj,List.getElem?_set_ne hkj]
  have e3:(bK (ob.set k a) K (cK K))[k]? =some a:=by rw[eI hn'.1,List.getElem?_set_self hk]
  have hck:co (cs.set k c) k=c:=by simp[co,List.getElem?_set_self (show k<cs.length by omega)]
  have hl0:(bK (ob.set k a) K (cK K)).length=(cs.set k c).length:=by rw[dN];simpa using h3
  have h5:=yI (r':=aC none (co cs k)) (aS hl0 e3) b
  rw[hck]at h5
  have e4:(aA (bK (ob.set k a) K (cK K)) (cs.set k c)).set k (aC none (co cs k))=aA (bK (ob.set k none) K (cK K)) cs:=by
   rw[e2,←jN]
   congr 1
   rw[List.set_set,sG (by omega)]
  have h6:(aC none (co cs k)).S=[]:=by cases hb:(co cs k).b <;> simp[aC]
  rw[e4,h6,List.count_nil]at h5
  unfold bJ aA
  unfold aA at h5
  omega
theorem mZ {K:List Nat}(hn:K.Nodup) (hl:ob.length=cs.length) (hK:∀k∈K,k<ob.length){r:Res}(h:r∈aA (bK ob K (cK K)) cs):r∈aA ob cs∨r.S=[]∧∀W,r.φ W:=by
 obtain⟨j,hj⟩:=List.mem_iff_getElem?.1 h
 by_cases hjK:j∈K
 ·obtain⟨i,hi⟩:=List.mem_iff_getElem?.1 hjK
  have h1:=gY (l:=cK K) hn (by simp[cK]) hi (hK j hjK)
  have h2:(cK K)[i]? =some none:=by simp[cK,hi]
  rw[h2]at h1
  rw[aS (by rw[dN];exact hl) h1]at hj
  injection hj with hj
  subst hj
  refine .inr ⟨?_,fun W=>?_⟩ <;> cases hb:(co cs j).b <;> simp[aC]
 left
 have h1:=eI (l:=cK K) (ob:=ob) hjK
 cases h2:ob[j]? with
 | none=>
  rw[h2]at h1
  have:¬j<(bK ob K (cK K)).length:=fun h=>by simp[h]at h1
  have h3:=(List.getElem?_eq_some_iff.1 hj).1
  rw[eG (by rw[dN];exact hl)]at h3
  rw[dN]at this
  omega
 | some o=>
  rw[h2]at h1
  rw[aS (by rw[dN];exact hl) h1]at hj
  injection hj with hj
  subst hj
  exact List.mem_of_getElem? (aS hl h2)
theorem Dd {K:List Nat}{N':Nat→Prop}(hR:RelC x g ob cs ts W) (hN:∀b,x.fr W ob cs b→N' b):∀{os:List Operand}{aa:List FV},tX x.n g K os aa→bM W N' (K.map (co cs)) aa (os.map (Act.eval ⟨ts,[]⟩))
 | [],aa,h=>by
  simp only[tX]at h
  simp[h,bM]
 | o::os,[],h=>by simp only[tX]at h
 | o::os,a::aa,h=>by
  simp only[tX]at h
  simp only[List.map_cons,bM]
  refine⟨?_,Dd hR hN h.2⟩
  have:=yH hN h.1 (hR.lk o)
  cases a with
  | tup l=>simp[pS]at h
  | _=>exact this
theorem sS {N:Nat→Prop}:∀{l l':List FV}{us us':List Value},bM W N cs l us→bM W N cs l' us'→bM W N cs (l++l') (us++us')
 | [],l',us,us',h,h'=>by
  simp only[bM]at h
  subst h
  simpa using h'
 | a::l,l',u::us,us',h,h'=>by
  simp only[bM]at h
  simp only[List.cons_append,bM]
  exact⟨h.1,sS h.2 h'⟩
 | _::_,_,[],_,h,_=>by simp only[bM]at h
theorem pY {N N':Nat→Prop}(hN:∀b,N b→N' b):∀{caps:List Tr}{us:List Value},FRL W N caps us→bM W N' cs (iQ caps) us
 | [],us,h=>by
  simp only[FRL]at h
  simp[h,iQ,bM]
 | c::caps,[],h=>by simp only[FRL]at h
 | c::caps,u::us,h=>by
  simp only[FRL]at h
  simp only[iQ,List.map_cons,bM]
  refine⟨?_,pY hN h.2⟩
  have h1:=dU (W':=W) (fun _ _=>rfl) hN _ _ h.1
  cases c with
  | a l=>
   simp only[FR]at h1
   obtain⟨us,e,h2⟩:=h1
   exact⟨us,e,yW h2⟩
  | _=>simpa only[Hu,aR,AR]using h1
theorem Ba {fresh:Bool}{f:FuncId}{args:List FV}{R:List Lt→FV→Prop}{lent:List Lt}{K:List Nat}{os:List Operand}{fst caps:List Tr}{fus cus:List Value}(hS:aJ fresh x.P f lent (iQ fst++args++iQ caps) R) (hK:eZ ob K K lent) (hnd:K.Nodup) (ha:tX x.n g K os args) (hfst:FRL W (x.fr W ob cs) fst fus) (hcap:FRL W (x.fr W ob cs) caps cus) (hR:RelC x g ob cs ts W):
  Calls x.P f (fus++os.map (Act.eval ⟨ts,[]⟩)++cus).toArray W (fun e W'=>∃v lent' r ys cl N2,e=.returned v∧R lent' r∧lent'.length=K.length∧cl.length=K.length∧RO W' N2 cl r v ys∧VT.okL W' ys∧(VT.fpL ys).Nodup∧
   ∀(ok:List (Option Ob)),cN K lent' ok→∀(oz:List Ob) (csn:List Co),csn.length=oz.length→(∀b,((aA (oz.map some) csn).flatMap Res.S).count b≤(VT.fpL ys).count b)→(∀r∈aA (oz.map some) csn,r.φ W')→
    (∀b,N2 b→x.fr W' (bK ob K ok++oz.map some) (bQ cs K cl++csn) b)∧
    ((∀i o,oz[i]? =some o→aM W' (x.fr W' (bK ob K ok++oz.map some) (bQ cs K cl++csn)) (bQ cs K cl++csn) o.l (co csn i).l∧((co csn i).b=none→o.l=[]∧o.z≠0))→
     RelC x g (bK ob K ok++oz.map some) (bQ cs K cl++csn) ts W'∧∀d,Aft K d ob cs ts W (bK ob K ok++oz.map some) (bQ cs K cl++csn) ts W')):=by
 have hlen:=hR.len
 have hll:=qR hK
 have hKl:∀k∈K,k<ob.length:=fun k hk=>by
  obtain⟨i,hi⟩:=List.mem_iff_getElem?.1 hk
  obtain⟨a,l',_,_,h2⟩:=iW hK hi
  exact(List.getElem?_eq_some_iff.1 h2).1
 have hlobs:(aT lent).length=K.length:=by rw[gC,hll]
 have hput0:aA (bK ob K (aT lent)) cs=aA ob cs:=by
  have hl0:(bK ob K (aT lent)).length=cs.length:=by rw[dN];exact hlen
  apply List.ext_getElem?
  intro j
  by_cases hjl:j<ob.length
  ·by_cases hj:j∈K
   ·obtain⟨i,hi⟩:=List.mem_iff_getElem?.1 hj
    obtain⟨a,l',h1,_,h2⟩:=iW hK hi
    have h3:=gY hnd hlobs hi hjl
    rw[eW,h1]at h3
    rw[aS hl0 h3,aS hlen h2]
    exact congrArg some (nK _ _)
   have h3:=eI (l:=aT lent) (ob:=ob) hj
   rw[List.getElem?_eq_getElem hjl]at h3
   rw[aS hl0 h3,aS hlen (List.getElem?_eq_getElem hjl)]
  rw[List.getElem?_eq_none (by rw[eG hl0];omega),List.getElem?_eq_none (by rw[eG hlen];omega)]
 have hputc:bQ cs K (K.map (co cs))=cs:=by
  have key:∀(K:List Nat),(∀k∈K,k<cs.length)→bQ cs K (K.map (co cs))=cs:=by
   intro K
   induction K with
   | nil=>intro _;rfl
   | cons k K ih=>
    intro h
    simp only[List.map_cons,bQ]
    rw[sG (h k (by simp))]
    exact ih fun j hj=>h j (List.mem_cons_of_mem _ hj)
  exact key K fun k hk=>by rw[←hlen];exact hKl k hk
 have hcnt0:=fun b=>sR b (l:=aT lent) (lc:=K.map (co cs)) (cs:=cs) hnd hlobs (by simp) hlen hKl
 unfold bJ at hcnt0
 rw[hputc,hput0]at hcnt0
 have hfr0:∀b,x.fr W ob cs b→kR W (aA (aT lent) (K.map (co cs))) b:=fun b hb=>And.intro hb.1.1 fun hm=>hb.1.2 (by
  have h1:=List.count_pos_iff.2 hm
  have h2:=hcnt0 b
  exact List.count_pos_iff.1 (show 0<((aA ob cs).flatMap Res.S).count b by omega))
 have hgetL:∀i k,K[i]? =some k→∃(a:Lt) (l':List AV),lent[i]? =some a∧renL K a.l=some l'∧ob[k]? =some (some (⟨a.t,a.z,l'⟩:Ob)):=fun i k hi=>iW hK hi
 have hφ0:∀r∈aA (aT lent) (K.map (co cs)),r.φ W:=fun r hr=>by
  obtain⟨i,hi⟩:=List.mem_iff_getElem?.1 hr
  have hil:=(List.getElem?_eq_some_iff.1 hi).1
  have hil2:i<K.length:=by
   rw[eG (by simp[hlobs])]at hil
   simpa using hil
  obtain⟨a,l',h1,_,h2⟩:=hgetL i K[i] (List.getElem?_eq_getElem hil2)
  have e1:(aT lent)[i]? =some (some a.ob):=by rw[eW,h1];rfl
  rw[aS (by simp[hlobs]) e1,iJ (List.getElem?_eq_getElem hil2)]at hi
  injection hi with hi
  subst hi
  rw[show aC (some a.ob) (co cs K[i])=aC (some ⟨a.t,a.z,l'⟩) (co cs K[i]) from nK _ _]
  exact hR.res h2
 have h1:Loc x.M x.w W (aA (aT lent) (K.map (co cs))++aA (bK ob K (cK K)) cs) []:=(hR.2.pickS []).cut (fun b=>by
  rw[List.flatMap_append,List.count_append]
  have:=hcnt0 b
  omega) (fun r hr=>by
  rcases List.mem_append.1 hr with hr | hr
  ·exact hφ0 r hr
  rcases mZ hnd hlen hKl hr with hr | hr
  ·exact hR.2.res r hr
  exact hr.2 W)
 have h2:Loc ((aA (aT lent) (K.map (co cs))).flatMap Res.S) W W (aA (aT lent) (K.map (co cs))) [(Mf lent (K.map (co cs)) (iQ fst++args++iQ caps) (fus++os.map (Act.eval ⟨ts,[]⟩)++cus)).on (x.fr W ob cs)]:=by
  refine h1.focus.read _ ⟨⟨by simp[hlobs],fun k o hk=>?_⟩,sS (sS (pY (fun b hb=>⟨hfr0 b hb,hb⟩) hfst) (Dd hR (fun b hb=>⟨hfr0 b hb,hb⟩) ha)) (pY (fun b hb=>⟨hfr0 b hb,hb⟩) hcap)⟩
  rw[eW]at hk
  cases hq:lent[k]? with
  | none=>rw[hq]at hk;cases hk
  | some a=>
   rw[hq]at hk
   simp at hk
   subst hk
   have hkK:k<K.length:=by rw[←hll];exact(List.getElem?_eq_some_iff.1 hq).1
   obtain⟨a',l',q1,q0,q2⟩:=hgetL k K[k] (List.getElem?_eq_getElem hkK)
   rw[hq]at q1
   injection q1 with q1
   subst q1
   have q3:=hR.obs.2 _ _ q2
   rw[iJ (List.getElem?_eq_getElem hkK)]
   exact⟨sF (fun b hb=>⟨hfr0 b hb,hb⟩) q0 q3.1,fun h=>⟨(wJ q0).2 (q3.2 h).1,(q3.2 h).2⟩⟩
 refine(hS _ W _ _ h2).mono fun e W' hE=>?_
 obtain⟨v,lent',cl,r,ys,rfl,hr,hl',hty,hcl,hsame,h3⟩:=hE
 have h4:=Loc.turn h1 h3
 have hsh:=Sh.off (h3.sh 0 rfl)
 have hcl':cl.length=K.length:=by simpa using hcl
 have hlK:lent'.length=K.length:=by rw[hl',hll]
 refine⟨v,lent',r,ys,cl,_,rfl,hr,hlK,hcl',hsh.2,h3.res (eV ys) (by simp),?_,fun ok hbk oz csn hlz hcz hφz=>?_⟩
 ·have:=h3.nd
  rw[List.flatMap_append,List.nodup_append]at this
  simpa[eV]using this.2.1
 have hlob':ok.length=K.length:=by rw[qS hbk,hlK]
 have hrk:aA ok cl=aA (aT lent') cl:=by
  apply List.ext_getElem?
  intro j
  by_cases hj:j<lent'.length
  ·obtain⟨l',q1,q2⟩:=mM hbk (List.getElem?_eq_getElem hj)
   rw[aS (by rw[hlob',hcl']) q2,aS (ob:=aT lent') (by rw[gC,hlK,hcl']) (o:=some (lent'[j]).ob) (by rw[eW,List.getElem?_eq_getElem hj];rfl)]
   exact congrArg some (nK _ _)
  rw[List.getElem?_eq_none (by rw[eG (by rw[hlob',hcl'])];omega),List.getElem?_eq_none (by rw[eG (by rw[gC,hlK,hcl'])];omega)]
 have hlen2:(bK ob K ok).length=(bQ cs K cl).length:=by rw[dN,gE];exact hlen
 have hrs:aA (bK ob K ok++oz.map some) (bQ cs K cl++csn)=aA (bK ob K ok) (bQ cs K cl)++aA (oz.map some) csn:=by
  unfold aA
  rw[List.zipWith_append hlen2]
 have hcnt2:∀b,(bJ (bK ob K ok++oz.map some) (bQ cs K cl++csn)).count b≤(((aA (aT lent') cl++[eV ys])++aA (bK ob K (cK K)) cs).flatMap Res.S).count b:=fun b=>by
  have q1:=sR b (l:=ok) (lc:=cl) (cs:=cs) hnd hlob' hcl' hlen hKl
  rw[hrk]at q1
  have q2:=hcz b
  unfold bJ at q1⊢
  rw[hrs,List.flatMap_append,List.count_append,List.flatMap_append,List.count_append,List.flatMap_append,List.count_append,List.flatMap_cons,List.flatMap_nil,List.append_nil]
  have q3:(eV ys).S=VT.fpL ys:=rfl
  rw[q3]
  omega
 have hin2:∀b,b∈bJ (bK ob K ok++oz.map some) (bQ cs K cl++csn)→b∈((aA (aT lent') cl++[eV ys])++aA (bK ob K (cK K)) cs).flatMap Res.S:=fun b hb=>List.count_pos_iff.1 (Nat.lt_of_lt_of_le (List.count_pos_iff.2 hb) (hcnt2 b))
 have hrest:∀b,b∈(aA (bK ob K (cK K)) cs).flatMap Res.S→b∈bJ ob cs:=fun b hb=>by
  obtain⟨r,hr,hb⟩:=List.mem_flatMap.1 hb
  rcases mZ hnd hlen hKl hr with hr | hr
  ·exact List.mem_flatMap.2 ⟨r,hr,hb⟩
  rw[hr.1]at hb
  cases hb
 have hlentS:∀b,b∈(aA (aT lent) (K.map (co cs))).flatMap Res.S→b∈bJ ob cs:=fun b hb=>by
  have q1:=List.count_pos_iff.2 hb
  have q2:=hcnt0 b
  exact List.count_pos_iff.1 (show 0<((aA ob cs).flatMap Res.S).count b by omega)
 have hfree:∀b,kR W' (aA (aT lent') cl++[eV ys]) b→(x.fr W ob cs b∨b∈(aA (aT lent) (K.map (co cs))).flatMap Res.S∨W.heap.size≤b)→x.fr W' (bK ob K ok++oz.map some) (bQ cs K cl++csn) b:=fun b hb hb'=>by
  refine⟨⟨hb.1,fun hm=>?_⟩,?_⟩
  ·have hm:=hin2 b hm
   rw[List.flatMap_append,List.mem_append]at hm
   rcases hm with hm | hm
   ·exact hb.2 hm
   have hm2:=hrest b hm
   rcases hb' with hb' | hb' | hb'
   ·exact hb'.1.2 hm2
   ·have q1:=hcnt0 b
    have q2:=List.nodup_iff_count.1 hR.2.nd b
    have q3:=List.count_pos_iff.2 hb'
    have q4:=List.count_pos_iff.2 hm
    unfold bJ at q1
    omega
   have:=(hR.2.blk b hm2).2
   omega
  rcases hb' with hb' | hb' | hb'
  ·exact hb'.2
  ·exact .inr (hR.2.blk b (hlentS b hb')).1
  exact .inr (.inr (Nat.le_trans hR.2.chg.size hb'))
 have hsize:W.heap.size≤W'.heap.size:=h3.chg.size
 have hfr:∀b,x.fr W ob cs b→x.fr W' (bK ob K ok++oz.map some) (bQ cs K cl++csn) b:=fun b hb=>by
  refine hfree b ⟨Nat.lt_of_lt_of_le hb.1.1 hsize,fun hm=>?_⟩ (.inl hb)
  have q1:=h3.blk b hm
  rcases q1.1 with q1 | q1
  ·exact hb.1.2 (hlentS b q1)
  have:=hb.1.1
  omega
 have hkeep:∀b,x.fr W ob cs b→W'.heap[b]? =W.heap[b]? :=fun b hb=>h3.chg.block b hb.1.1 (fun hm=>hb.1.2 (hlentS b hm))
 refine⟨fun b hb=>hfree b hb.2.1 hb.2.2,fun hoz=>?_⟩
 have hcoK:∀i k,K[i]? =some k→co (bQ cs K cl) k=co cl i:=fun i k hi=>yX hnd hcl' hi (by rw[←hlen];exact hKl k (List.mem_of_getElem? hi))
 have hsame2:Same cs (bQ cs K cl):=⟨by rw[gE];exact Nat.le_refl _,fun k hk=>by
  by_cases hkK:k∈K
  ·obtain⟨i,hi⟩:=List.mem_iff_getElem?.1 hkK
   have:=hsame.2 i (by simpa using(List.getElem?_eq_some_iff.1 hi).1)
   rw[iJ hi]at this
   rw[hcoK i k hi]
   exact this
  rw[gX hkK]
  exact⟨rfl,rfl⟩⟩
 have happ:∀{k},k<(bQ cs K cl).length→co (bQ cs K cl++csn) k=co (bQ cs K cl) k:=fun hk=>by simp[co,List.getElem?_append_left hk]
 have hsame3:Same cs (bQ cs K cl++csn):=hsame2.trans ⟨by simp,fun k hk=>by rw[happ hk];exact⟨rfl,rfl⟩⟩
 have hLf:Loc x.M x.w W' (aA (bK ob K ok++oz.map some) (bQ cs K cl++csn)) []:=h4.cut hcnt2 (fun r hr=>by
  rw[hrs]at hr
  rcases List.mem_append.1 hr with hr | hr
  ·obtain⟨j,hj⟩:=List.mem_iff_getElem?.1 hr
   have hjl:=(List.getElem?_eq_some_iff.1 hj).1
   rw[eG hlen2,gE,←hlen]at hjl
   by_cases hjK:j∈K
   ·obtain⟨i,hi⟩:=List.mem_iff_getElem?.1 hjK
    have q1:=gY hnd hlob' hi (hKl j hjK)
    have q2:i<ok.length:=by rw[hlob'];exact(List.getElem?_eq_some_iff.1 hi).1
    rw[List.getElem?_eq_getElem q2]at q1
    rw[aS hlen2 q1,hcoK i j hi]at hj
    injection hj with hj
    subst hj
    refine h3.res _ (List.mem_append_left _ (by rw[←hrk];exact List.mem_of_getElem? (aS (by rw[hlob',hcl']) (List.getElem?_eq_getElem q2))))
   have q1:(bK ob K ok)[j]? =ob[j]? :=eI hjK
   rw[List.getElem?_eq_getElem hjl]at q1
   rw[aS hlen2 q1,gX hjK]at hj
   injection hj with hj
   subst hj
   have q2:(bK ob K (cK K))[j]? =ob[j]? :=eI hjK
   rw[List.getElem?_eq_getElem hjl]at q2
   exact h4.res _ (List.mem_append_right _ (List.mem_of_getElem? (aS (by rw[dN];exact hlen) q2)))
  exact hφz r hr)
 refine⟨.of hR.1 hLf ⟨by rw[List.length_append,List.length_append,hlen2,List.length_map,hlz],fun k o hk=>?_⟩ (fun i hi=>?_) (hR.3.trans hsame3),fun d=>⟨hsame3,fun k hk hkc=>?_,hsize,fun b hlt hb=>?_,fun b hb=>?_,fun _ _=>rfl⟩⟩
 ·rcases Nat.lt_or_ge k (bK ob K ok).length with hlt | hge
  ·rw[List.getElem?_append_left hlt]at hk
   rw[happ (by rw[←hlen2];exact hlt)]
   rw[dN]at hlt
   by_cases hkK:k∈K
   ·obtain⟨i,hi⟩:=List.mem_iff_getElem?.1 hkK
    rw[gY hnd hlob' hi hlt]at hk
    have hil:i<lent'.length:=by rw[hlK];exact(List.getElem?_eq_some_iff.1 hi).1
    obtain⟨l',q0,q2⟩:=mM hbk (List.getElem?_eq_getElem hil)
    rw[q2]at hk
    injection hk with hk
    injection hk with hk
    subst hk
    have q1:=hsh.1.2 i (lent'[i]).ob (by rw[eW,List.getElem?_eq_getElem hil];rfl)
    rw[hcoK i k hi]
    have q3:wI K cl (bQ cs K cl++csn):=fun i k hi=>by
     have hkl:=hKl k (List.mem_of_getElem? hi)
     have hkp:k<(bQ cs K cl).length:=by rw[gE,←hlen];exact hkl
     exact⟨by rw[List.length_append];omega,by rw[happ hkp,hcoK i k hi]⟩
    exact⟨bP (fun _ _=>rfl) (fun b hb=>hfree b hb.2.1 hb.2.2) .refl _ _ (Dc q3 q0 q1.1),fun h=>⟨(wJ q0).1 (q1.2 h).1,(q1.2 h).2⟩⟩
   rw[eI hkK]at hk
   rw[gX hkK]
   have q1:=hR.obs.2 k o hk
   exact⟨bP hkeep hfr hsame3 _ _ q1.1,q1.2⟩
  rw[List.getElem?_append_right hge]at hk
  have ho:oz[k-(bK ob K ok).length]? =some o:=by
   rw[List.getElem?_map]at hk
   cases hq:oz[k-(bK ob K ok).length]? with
   | none=>rw[hq]at hk;cases hk
   | some o'=>
    rw[hq]at hk
    simp at hk
    rw[hk]
  have q1:=hoz _ o ho
  have e:co (bQ cs K cl++csn) k=co csn (k-(bK ob K ok).length):=by
   unfold co
   rw[List.getElem?_append_right (by rw[←hlen2];exact hge),hlen2]
  rw[e]
  exact q1
 ·obtain⟨u,q1,q2⟩:=hR.fv hi
  exact⟨u,q1,cM hkeep hfr hsame3 _ _ q2⟩
 ·rw[happ (by rw[gE];exact hkc),gX hk]
 ·refine h3.chg.block b hlt fun hm=>?_
  obtain⟨r,hr,hbr⟩:=List.mem_flatMap.1 hm
  obtain⟨i,hi⟩:=List.mem_iff_getElem?.1 hr
  have hil:=(List.getElem?_eq_some_iff.1 hi).1
  have hil2:i<K.length:=by
   rw[eG (by simp[hlobs])]at hil
   simpa using hil
  obtain⟨a,l',q1,_,q2⟩:=hgetL i K[i] (List.getElem?_eq_getElem hil2)
  have e1:(aT lent)[i]? =some (some a.ob):=by rw[eW,q1];rfl
  rw[aS (by simp[hlobs]) e1,iJ (List.getElem?_eq_getElem hil2)]at hi
  injection hi with hi
  subst hi
  rw[show aC (some a.ob) (co cs K[i])=aC (some ⟨a.t,a.z,l'⟩) (co cs K[i]) from nK _ _]at hbr
  exact hb K[i] (List.getElem_mem hil2) _ q2 hbr
 have q1:=hin2 b hb
 rw[List.flatMap_append,List.mem_append]at q1
 rcases q1 with q1 | q1
 ·rcases(h3.blk b q1).1 with q2 | q2
  ·exact .inl (hlentS b q2)
  exact .inr q2
 exact .inl (hrest b q1)
end
theorem wK {k:Nat}{a:AV}(h:(sO k a).isSome=true):∃y,a=.t y:=by
 cases a with
 | t y=>exact⟨y,rfl⟩
 | _=>simp[sO]at h
theorem wL {W:World}{N:Nat→Prop}{cs:List Co}:∀{l:List AV}{k:Nat}{r:List AV×List Ob}{ys:List VT},iO k l=some r→aM W N cs l ys→aM W N [] l ys
 | [],_,_,ys,_,h=>by simpa[aM]using h
 | a::l,k,r,[],_,h=>by simp only[aM]at h
 | a::l,k,r,y::ys,hb,h=>by
  simp only[aM]at h⊢
  unfold iO at hb
  split at hb
  ·rename_i a' ha
   split at hb
   ·rename_i l' os hl
    obtain⟨z,rfl⟩:=wK (k:=k) (by rw[ha];rfl)
    exact⟨h.1,wL hl h.2⟩
   cases hb
  ·rename_i a' o r' ha
   split at hb
   ·rename_i l' os hl
    obtain⟨z,rfl⟩:=wK (k:=k) (by rw[ha];rfl)
    exact⟨h.1,wL hl h.2⟩
   cases hb
  cases hb
theorem wM {W:World}{N:Nat→Prop}{cs:List Co}{k:Nat}{r:FV}{b:FV×List Ob}{u:Value}{ys:List VT}(hb:nS k r=some b) (h:mX W N cs r u ys):mX W N [] r u ys:=by
 cases r with
 | any=>exact h.elim
 | tup l=>exact h.elim
 | one a=>
  unfold nS at hb
  dsimp only at hb
  split at hb
  ·rename_i a' os ha
   obtain⟨z,rfl⟩:=wK (k:=k) (by rw[ha];rfl)
   exact h
  cases hb
 | agg l=>
  unfold nS at hb
  dsimp only at hb
  split at hb
  ·rename_i l' os hl
   exact⟨h.1,wL hl h.2⟩
  cases hb
theorem De {W:World}{N:Nat→Prop}{cs:List Co}:∀{l:List FV}{k:Nat}{b:List FV×List Ob}{us:List Value}{ys:List VT},pW k l=some b→nM W N cs l us ys→nM W N [] l us ys
 | [],_,_,us,ys,_,h=>h
 | a::l,k,b,us,ys,hb,⟨v,vs,y1,y2,h1,h2,h3,h4⟩=>by
  unfold pW at hb
  split at hb
  ·rename_i a' os ha
   split at hb
   ·rename_i l' os' hl
    exact⟨v,vs,y1,y2,h1,h2,wM ha h3,De hl h4⟩
   cases hb
  cases hb
theorem Pz {W:World}{N:Nat→Prop}{cs:List Co}{k:Nat}{r:FV}{b:FV×List Ob}{u:Value}{ys:List VT}(hb:nT k r=some b) (h:RO W N cs r u ys):RO W N [] r u ys:=by
 cases r with
 | tup l=>
  obtain⟨vs,e,h⟩:=h
  unfold nT at hb
  dsimp only at hb
  split at hb
  ·rename_i l' os hl
   exact⟨vs,e,De hl h⟩
  cases hb
 | any=>exact h.elim
 | one a=>exact wM (r:=.one a) hb h
 | agg l=>exact wM (r:=.agg l) hb h
section
variable {x:Cx}{g g':Nat→FV}{ob ob':List (Option Ob)}{cs cs':List Co}{ts ts':Array Value}{W W':World}{T:List (Nat×TI)}{Q:cP}{ops:Array Oper}{rest:List Oper}{d:Nat}{op:Op}{ty:TypeId}{pos:String}{af:Array Edge}{gd:Option (Nat×Bool)}
theorem Df {cf:Operand}{f:FuncId}{us0 us:List Value}{aa:Array Operand}{ats:Array TypeId}(hf:CallOk x.P f) (e0:Act.eval ⟨ts,[]⟩ cf=.func (.func f) us0.toArray us.toArray):
  (execOp (Act.eval ⟨ts,[]⟩) ⟨some d,.call ⟨.value cf,aa,ats⟩,ty,pos,af,gd⟩).run x.P W=.ok (.enter f (us0++aa.toList.map (Act.eval ⟨ts,[]⟩)++us).toArray) W:=by
 obtain⟨fn,c,h1,h2,h3⟩:=hf
 have e1:aa.map (Act.eval ⟨ts,[]⟩)=(aa.toList.map (Act.eval ⟨ts,[]⟩)).toArray:=by apply Array.ext';simp only[Array.toList_map]
 simp[execOp,resolve,e0,Deferred.ofValue,invoke,e1,callFunc,h1,h3]
 intro hn
 rw[hn]at h2
 simp at h2
theorem Gg {fresh:Bool}{f:FuncId}{args:List FV}{R:List Lt→FV→Prop}{lent:List Lt}{K:List Nat}{aa:Array Operand}{ats:Array TypeId}{cf:Operand}{fst caps:List Tr}{key:Nat}(hS:aJ fresh x.P f lent (iQ fst++args++iQ caps) R) (hf:CallOk x.P f) (hc:Rh x g cf f fst caps) (hK:eZ ob K K lent) (hnd:K.Nodup) (ha:tX x.n g K aa.toList args) (hk:dS ob key=true) (hb:∀l r,R l r→l.length=K.length→(nT key r).isSome=true∧∃ok,cN K l ok):
  OS x ⟨some d,.call ⟨.value cf,aa,ats⟩,ty,pos,af,gd⟩ g ob K (fun g' ob'=>∃l r v os ok,R l r∧l.length=K.length∧nT key r=some (v,os)∧cN K l ok∧g'=aK g d v∧ob'=bK ob K ok++os.map some):=by
 intro cs ts W hR K' Q kk
 obtain⟨us0,us,e0,hfst,hcap⟩:=hc ob cs ts W hR
 unfold Oper.wp
 rw[Df hf e0]
 refine(Ba hS hK hnd ha hfst hcap hR).mono fun e W' hE=>?_
 obtain⟨v,lent',r,ys,cl,N2,rfl,hr,hl1,hl2,hro,hok,hndy,fin⟩:=hE
 obtain⟨hb1,ok,hbk⟩:=hb _ r hr hl1
 obtain⟨⟨v',os⟩,hbn⟩:=Option.isSome_iff_exists.1 hb1
 obtain⟨csn,e1,e2,e3,e4⟩:=Cy (Pz hbn hro) hok hbn
 obtain⟨hN,hfin⟩:=fin ok hbk os csn e1 (fun b=>by rw[e2];exact Nat.le_refl _) e3
 have hk:=Nat.eq_of_beq_eq_true hk
 have hpl:(bQ cs K cl).length=key:=by rw[gE,←hR.len,hk]
 obtain⟨g1,g2⟩:=e4 _ (bQ cs K cl++csn) hN (by simp[hpl,e1]) (fun i _=>by
  unfold co
  rw[List.getElem?_append_right (by omega),hpl,show key+i-key=i by omega])
 obtain⟨m1,m2⟩:=hfin g2
 exact kk _ _ _ _ _ ⟨lent',r,v',os,ok,hr,hl1,hbn,hbk,rfl,rfl⟩ (m1.put d g1) ((m2 (some d)).then_put v)
theorem tY {K0:List Nat}:∀{l:List Lt}{a b:List (Option Ob)},cN K0 l a→cN K0 l b→a=b
 | [],a,b,h,h'=>by
  simp only[cN]at h h'
  rw[h,h']
 | x::l,[],b,h,_=>by simp only[cN]at h
 | x::l,a::al,[],_,h=>by simp only[cN]at h
 | x::l,a::al,b::bl,h,h'=>by
  simp only[cN]at h h'
  obtain⟨⟨l1,e1,e2⟩,h2⟩:=h
  obtain⟨⟨l2,f1,f2⟩,h3⟩:=h'
  rw[e1]at f1
  injection f1 with f1
  subst f1
  rw[e2,f2,tY h2 h3]
def Rt (l0:List Lt) (r0:FV):List Lt→FV→Prop:=fun l r=>l=l0∧r=r0
theorem Mv {i:Nat}{v:FV}(hi:Nat.blt i x.n=true) (h:∀W N cs u,aI W N cs (g i) u→aI W N cs v u):Sub x g ob (aK g i v) ob:=by
 rintro ts W ⟨cs,hR⟩
 have hi:i<x.n:=by simpa[Nat.blt,Nat.lt_iff_add_one_le]using hi
 obtain⟨u,e1,e2⟩:=hR.fv hi
 have e3:ts.setIfInBounds i u=ts:=by
  apply Array.ext_getElem?
  intro j
  by_cases hj:i=j
  ·subst hj
   have:i<ts.size:=by rw[hR.1];exact hi
   rw[Array.getElem?_setIfInBounds_self_of_lt this,e1]
  rw[Array.getElem?_setIfInBounds_ne hj]
 have:=hR.put i (h _ _ _ _ e2)
 rw[e3]at this
 exact⟨cs,this⟩
theorem Mw {t e z by_:Nat}{zz:Value}{ti:Bool}{ts0:Nat}{z0:List Value}{a:Operand}{t2:TypeId}{m:Nat}(hT:aU x.P T) (ht:aL T t=some ⟨ti,ts0,z0,.sl e z by_ zz⟩) (ha:fR (lk x.n g a)=some m):
  OS x ⟨some d,.binOp .eql t a (.const (.slice none 0 0)) t2,ty,pos,af,gd⟩ g ob [] (fun g' ob'=>∃q:Bool,(q=true→m=0)∧g'=aK g d (.one (tv (.bool q)))∧ob'=ob):=by
 obtain⟨hts,_⟩:=(bF hT ht).2.2.2
 obtain⟨i,e1,_,_⟩:=hts
 intro cs ts W hR K Q kk
 obtain⟨A,c,hu⟩:=yD (hR.lk a) ha
 have h0:∀A c,Act.eval ⟨ts,[]⟩ a=.slice A m c→(A=none→m=0):=by
  intro A c hu hA
  subst hA
  have hv:=hR.lk a
  rw[hu]at hv
  cases hlk:lk x.n g a with
  | any=>rw[hlk]at ha;simp[fR]at ha
  | agg l=>rw[hlk]at ha;simp[fR]at ha
  | tup l=>rw[hlk]at ha;simp[fR]at ha
  | one av=>
   rw[hlk]at hv ha
   cases av with
   | pt=>simp[fR]at ha
   | ef=>simp[fR]at ha
   | fn=>simp[fR]at ha
   | sl k o n=>
    simp only[aI,aR,AR]at hv
    cases hb:(co cs k).b with
    | none=>
     rw[hb]at hv
     obtain⟨_,h1,_,h3⟩:=hv
     injection h3
    | some b=>
     rw[hb]at hv
     obtain⟨_,_,_,h3,_⟩:=hv
     injection h3 with h3
     cases h3
   | t y=>
    cases y with
    | p=>simp[fR]at ha
    | f=>simp[fR]at ha
    | a=>simp[fR]at ha
    | s o t z n l=>
     simp only[aI,aR,AR,FR]at hv
     obtain⟨A,c,h1,_,_,_,h5⟩:=hv
     injection h1 with h1 h2 _
     subst h1
     rcases h5 with h5 | ⟨ad,h5,_⟩
     ·omega
     cases h5
    | v w=>
     simp only[aI,aR,AR,FR]at hv
     subst hv
     unfold fR at ha
     split at ha
     ·rename_i h9
      cases h9
     ·rename_i h9
      cases h9
     ·rename_i h9
      injection ha with ha
      exact ha.symm
     cases ha
 have hrun:(execOp (Act.eval ⟨ts,[]⟩) ⟨some d,.binOp .eql t a (.const (.slice none 0 0)) t2,ty,pos,af,gd⟩).run x.P W=.ok (.value (.bool A.isNone)) W:=by
  have h3:∀A:Option Addr,(Op.equal t (.slice A m c) (.slice none 0 0)).run x.P W=.ok A.isNone W:=fun A=>by
   show(Op.equalIn (9999+1) t (.slice A m c) (.slice none 0 0)).run x.P W=_
   rw[Op.equalIn]
   simp only[Sem.run_bind,run_underlying e1,Result.andThen_ok]
   cases A <;> rfl
  have h4:Act.eval ⟨ts,[]⟩ (.const (.slice none 0 0))=.slice none 0 0:=rfl
  simp only[execOp,hu,h4,eqGuard_at_slice,binOp,Sem.run_bind,Sem.run_pure,Result.andThen_ok,h3]
 refine cC hrun (kk _ _ _ _ _ ⟨A.isNone,fun h=>h0 A c hu (by simpa using h),rfl,rfl⟩ (hR.put d (v:=.one (tv (.bool A.isNone))) (by simp[aI,aR,tv,AR,FR])) (.put d _))
theorem Mx {t e z by_ key:Nat}{zz:Value}{ti:Bool}{ts0:Nat}{z0:List Value}(hT:aU x.P T) (ht:aL T t=some ⟨ti,ts0,z0,.sl e z by_ zz⟩) (hk:dS ob key=true):OS x ⟨some d,.buildSlice t 0 #[],ty,pos,af,gd⟩ g ob [] (fun g' ob2=>g'=aK g d (.one (.sl key 0 0))∧ob2=ob++[some ⟨e,z,[]⟩]):=by
 obtain⟨_,ht',i,hi,hz,hsize,hby,hzs,hsz⟩:=(bF hT ht).2.2.2
 have hk:=Nat.eq_of_beq_eq_true hk
 subst hk
 intro cs ts W hR K Q kk
 have hrun:(execOp (Act.eval ⟨ts,[]⟩) ⟨some d,.buildSlice t 0 #[],ty,pos,af,gd⟩).run x.P W=.ok (.value (.slice (some ⟨W.heap.size,0,none⟩) 0 0)) (W.alloc (.cells #[] e)):=by
  simp[execOp,Instr.buildSlice,run_underlying ht',sizeOf,typeInfo,hi,Instr.fill,newRow]
  congr 2
  apply Array.ext'
  simp
 obtain⟨m1,m2⟩:=hR.made (t:=e) (z:=z) (c:=0) (l:=[]) (us:=[]) (by simp[ARL]) rfl (by cases hq:Nat.beq z 0 <;> simp) (Nat.zero_le _)
 refine cC hrun (kk _ _ _ _ _ ⟨rfl,rfl⟩ (m1.put d ?_) ((m2 (some d)).then_put _))
 refine dY ?_
 simp only[AR,hR.len,dV]
 exact⟨by simp,0,0,rfl,Nat.le_refl _,by omega,fun _=>rfl,fun _=>rfl⟩
theorem Gh {z:Array Value}{n:Nat}(h0:0<z.size):(Builtin.zeroCells z n).toList=eH z.toList n:=by
 unfold Builtin.zeroCells
 apply List.ext_getElem?
 intro j
 simp only[Array.toList_map,Array.toList_range,List.getElem?_map]
 by_cases hj:j<n*z.size
 ·rw[List.getElem?_range hj,pV (by simpa using hj)]
  simp only[Option.map_some]
  have hm:j%z.size<z.size:=Nat.mod_lt _ h0
  rw[getElem!_pos z _ hm]
  simp[hm]
 rw[List.getElem?_eq_none (by simp;omega),List.getElem?_eq_none (by simp[mK];omega)]
 rfl
theorem Dg:∀{us:List Value},cE (us.map tv)=true→∀n,cE ((eH us n).map tv)=true
 | us,h,0=>rfl
 | us,h,n+1=>by
  have ih:=Dg h n
  have app:∀(a b:List AV),cE a=true→cE b=true→cE (a++b)=true:=by
   intro a b
   induction a with
   | nil=>intro _ h;exact h
   | cons c a ih=>
    intro h1 h2
    simp only[cE,Bool.and_eq_true]at h1
    simp only[List.cons_append,cE,Bool.and_eq_true]
    exact⟨h1.1,ih h1.2 h2⟩
  unfold eH
  rw[List.map_append]
  exact app _ _ h ih
theorem My {t e z by_ k o n:Nat}{zz:Value}{ti:Bool}{ts0:Nat}{z0:List Value}{bo:Ob}{a:Operand}(hT:aU x.P T) (ht:aL T t=some ⟨ti,ts0,z0,.sl e z by_ zz⟩) (ha:lk x.n g a=.one (.sl k o n)) (ho:bI ob k=some bo) (hle:o+n*z≤bo.l.length) (hlo:cE (zz.cells.toList.map tv)=true):
  OS x ⟨none,.call ⟨.builtin .clear, #[a], #[t]⟩,ty,pos,af,gd⟩ g ob [k] (fun g' ob2=>g'=g∧ob2=ob.set k (some ⟨bo.t,bo.z,cD bo.l o ((eH zz.cells.toList n).map tv)⟩)):=by
 obtain⟨_,ht',i,hi,hz,hsize,hby,hzs,hsz⟩:=(bF hT ht).2.2.2
 have hk:=bS ho
 intro cs ts W hR K Q kk
 have hu:=hR.lk a
 rw[ha]at hu
 simp only[aI,aR,AR]at hu
 have idle:n=0→(execOp (Act.eval ⟨ts,[]⟩) ⟨none,.call ⟨.builtin .clear, #[a], #[t]⟩,ty,pos,af,gd⟩).run x.P W=.ok (.value (.tuple #[])) W→Oper.wp x.P ⟨none,.call ⟨.builtin .clear, #[a], #[t]⟩,ty,pos,af,gd⟩ ⟨ts,[]⟩ W K Q:=fun h0 hrun=>by
  subst h0
  unfold Oper.wp
  rw[hrun]
  have e1:cD bo.l o ((eH zz.cells.toList 0).map tv)=bo.l:=by simp[cD,eH]
  have e2:ob.set k (some ⟨bo.t,bo.z,cD bo.l o ((eH zz.cells.toList 0).map tv)⟩)=ob:=by
   rw[e1]
   apply List.ext_getElem?
   intro j
   by_cases hj:k=j
   ·subst hj
    rw[List.getElem?_set_self (List.getElem?_eq_some_iff.1 hk).1,hk]
   rw[List.getElem?_set_ne hj]
  refine kk g _ cs ts W ⟨rfl,rfl⟩ (by rw[e2];exact hR) (by rw[e2];exact⟨.refl,fun _ _ _=>rfl,Nat.le_refl _,fun _ _ _=>rfl,fun _ h=>.inl h,fun _ _=>rfl⟩)
 cases hb:(co cs k).b with
 | none=>
  rw[hb]at hu
  obtain⟨_,h0,_,e⟩:=hu
  exact idle h0 (by simp[execOp,resolve,invoke,builtin,e,Builtin.clear_,run_underlying ht'])
 | some b=>
  rw[hb]at hu
  obtain⟨_,o',c,e,h1,h2,h3,_⟩:=hu
  rcases Nat.eq_zero_or_pos n with h0 | h0
  ·subst h0
   exact idle rfl (by simp[execOp,resolve,invoke,builtin,e,Builtin.clear_,run_underlying ht'])
  obtain rfl:=h3 (.inl h0)
  have hzl:((eH zz.cells.toList n).map tv).length=n*z:=by simp[mK,hzs]
  obtain⟨W',c',hst,m1,m2⟩:=hR.over (us:=(eH zz.cells.toList n).map tv) (vs:=eH zz.cells.toList n) (o:=o') hk hb (gK _) (nI _) (Dg hlo n) (by rw[hzl];exact hle)
  have hd:∃m,n=m+1:=⟨n-1,by omega⟩
  obtain⟨m,hm⟩:=hd
  have hrun:(execOp (Act.eval ⟨ts,[]⟩) ⟨none,.call ⟨.builtin .clear, #[a], #[t]⟩,ty,pos,af,gd⟩).run x.P W=.ok (.value (.tuple #[])) W':=by
   rw[←Gh (by omega),hm]at hst
   rw[hm]at e
   simp[execOp,resolve,invoke,builtin,e,Builtin.clear_,run_underlying ht',zeroValue,typeInfo,hi,hz,hst]
  unfold Oper.wp
  rw[hrun]
  exact kk _ _ _ _ _ ⟨rfl,rfl⟩ m1 (m2 none)
end
section
variable {x:Cx}{g:Nat→FV}{ob ob':List (Option Ob)}{Q:cP}{ops:Array Oper}{rest:List Oper}{d:Nat}{op:Op}{ty:TypeId}{pos:String}{af:Array Edge}{gd:Option (Nat×Bool)}{C:Prop}{v:FV}
theorem cl {fresh:Bool}{f:FuncId}{lent lent':List Lt}{args:List FV}{r:FV}{os:List Ob}{aa:Array Operand}{ats:Array TypeId}(key:Nat) (K:List Nat) (hS:aJ fresh x.P f lent args (Rt lent' r)) (hf:CallOk x.P f) (hK:eZ ob K K lent) (ha:tX x.n g K aa.toList args){ok:List (Option Ob)}(hbk:cN K lent' ok) (k:WL x ops rest (aK g d v) (bK ob K ok++os.map some) Q) (hw:aO ops x.n g gd=some true:=by rfl) (hk:dS ob key=true:=by rfl) (hnd:K.Nodup:=by decide) (hb:nT key r=some (v,os):=by rfl):
  WL x ops (⟨some d,.call ⟨.value (.func f),aa,ats⟩,ty,pos,af,gd⟩::rest) g ob Q:=by
 have e:iQ []++args++iQ []=args:=by simp[iQ]
 refine eU (Gg (by rw[e];exact hS) hf (Px f) hK hnd ha hk (by rintro _ _ ⟨rfl,rfl⟩ _;exact⟨by rw[hb];rfl,ok,hbk⟩)) hw ?_
 rintro _ _ ⟨l,r',v',os',ok',⟨rfl,rfl⟩,_,h,h9,rfl,rfl⟩
 obtain rfl:=tY hbk h9
 rw[hb]at h
 injection h with h
 injection h with h1 h2
 subst h1 h2
 exact k
theorem nq {t e z by_ m:Nat}{zz:Value}{ti:Bool}{ts0:Nat}{z0:List Value}{a:Operand}{t2:TypeId}(k1:m=0→WL x ops rest (aK g d (.one (tv (.bool true)))) ob Q) (k2:WL x ops rest (aK g d (.one (tv (.bool false)))) ob Q) (hT:aU x.P ttab:=by exact aG) (ht:aL ttab t=some ⟨ti,ts0,z0,.sl e z by_ zz⟩:=by rfl) (ha:fR (lk x.n g a)=some m:=by rfl) (hw:aO ops x.n g gd=some true:=by rfl):
  WL x ops (⟨some d,.binOp .eql t a (.const (.slice none 0 0)) t2,ty,pos,af,gd⟩::rest) g ob Q:=
 eU (Mw hT ht ha) hw (by
  rintro _ _ ⟨q,h,rfl,rfl⟩
  cases q with
  | true=>exact k1 (h rfl)
  | false=>exact k2)
theorem clear {t e z by_ ky o n t' z':Nat}{zz:Value}{ti:Bool}{ts0:Nat}{z0:List Value}{l l':List AV}{a:Operand}(hle:o+n*z≤l.length) (hl:cD l o ((eH zz.cells.toList n).map tv)=l') (k:WL x ops rest g (ob.set ky (some ⟨t',z',l'⟩)) Q) (hT:aU x.P ttab:=by exact aG) (ht:aL ttab t=some ⟨ti,ts0,z0,.sl e z by_ zz⟩:=by rfl) (ha:lk x.n g a=.one (.sl ky o n):=by rfl) (ho:bI ob ky=some ⟨t',z',l⟩:=by rfl) (hlo:cE (zz.cells.toList.map tv)=true:=by rfl) (hw:aO ops x.n g gd=some true:=by rfl):
  WL x ops (⟨none,.call ⟨.builtin .clear, #[a], #[t]⟩,ty,pos,af,gd⟩::rest) g ob Q:=
 eU (My hT ht ha ho hle hlo) hw (by rintro _ _ ⟨rfl,rfl⟩;subst hl;exact k)
variable {late:Nat→Bool}{K fr:List Nat}{on:Bool}{fuel:Nat}{listed:Array Bool}
theorem nV {t:Nat}{ti:TI}{a:Operand}(i:Nat) (k:WD x ops Q late K (d::fr) true fuel (listed.setIfInBounds i true) (aK g d v) ob) (hT:aU x.P ttab:=by exact aG) (hi:ops[i]? =some ⟨some d,.load t a,ty,pos,af,gd⟩:=by rfl) (hw:aO ops x.n g gd=some true:=by rfl) (hti:aL ttab t=some ti:=by rfl) (h:pD ob ti (lk x.n g a)=some (C,v):=by rfl):WO x ops Q late K fr true fuel listed i g ob:=
 sN (v:=v) i hi rfl hw (Hm hT hti h) (by rintro _ _ ⟨rfl,rfl⟩;exact⟨rfl,fun _ _=>rfl⟩) (by rintro _ _ ⟨rfl,rfl⟩;exact k)
theorem Dh {m:Nat}(h0:x.c0.length=m) (τ:List Nat) (live:List (Nat×FV)) (os:List Ob) (hn:τ.Nodup) (ht:τ.take m=List.range m) (h1:jP τ g live) (h2:dZ τ ob τ os):Sub x g ob (bO live) (os.map some):=
 su τ (fun k hk=>by
  rw[h0]at hk
  have h3:=congrArg (·[k]?) ht
  simpa[List.getElem?_take,hk]using h3) live os hn h1 h2
theorem bZ {t len key:Nat}{ps:Array (Nat×Operand)}(i:Nat) (hi:ops[i]? =some ⟨some d,.buildSlice t len ps,ty,pos,af,gd⟩) (h:sM ttab x.n g t len key ps.toList ob=some ob') (hke:uP ob ob' K) (k:WD x ops Q late K (d::fr) true fuel (listed.setIfInBounds i true) (aK g d (.one (.sl key 0 len))) ob') (hw:aO ops x.n g gd=some true:=by rfl) (hT:aU x.P ttab:=by exact aG):WO x ops Q late K fr true fuel listed i g ob:=
 sN (v:=.one (.sl key 0 len)) i hi rfl hw (Aq hT h) (by rintro _ _ ⟨rfl,rfl⟩;exact⟨rfl,nR hke⟩) (by rintro _ _ ⟨rfl,rfl⟩;exact k)
end
end Go.Proofs.YteggpgndiajdpaaGreatDoor
namespace Go.Proofs.YteggpgndiajdpaaGreatDoor
open Go Go.ChangeShapes Go.WideShapes Go.ChangeAt Go.RowKit
def Di (w:World) (b:Nat):Prop:=b<w.heap.size
theorem Gi {P:Program}{f:FuncId}{args:List FV}{b:Bool}{us:List Value}{W:World}(h:aJ true P f [] args (bC (.one (tv (.bool b))))) (ha:bM W (Di W) [] args us):Calls P f us.toArray W (fun e W'=>e=.returned (.bool b)∧Below W.heap.size W W'):=by
 have h1:=h (Di W) W [] us ⟨Chg.refl _ _,by simp[aT,aA],by simp[aT,aA],by simp[aT,aA],fun q hq=>by
  simp at hq
  subst hq
  refine⟨⟨rfl,fun k o hk=>by simp[aT]at hk⟩,?_⟩
  exact fY (fun _ _=>rfl) (fun b hb=>⟨⟨hb,by simp[aT,aA]⟩,hb⟩) .refl _ _ ha⟩
 refine h1.mono fun e W' hE=>?_
 obtain⟨v,lent',cs',r,ys,rfl,⟨_,rfl⟩,hl,_,hcl,_,hL⟩:=hE
 obtain rfl:lent'=[]:=List.eq_nil_of_length_eq_zero hl
 obtain rfl:cs'=[]:=List.eq_nil_of_length_eq_zero hcl
 refine⟨?_,⟨hL.chg.os,hL.chg.tape,hL.chg.output,hL.chg.size,fun k hk=>hL.chg.block k hk (by simp[aT,aA])⟩⟩
 have h2:=(Sh.off (hL.sh 0 rfl)).2
 obtain⟨z,rfl,rfl,h3⟩:=h2
 simp only[tv,CR,OR]at h3
 subst h3
 rfl
end Go.Proofs.YteggpgndiajdpaaGreatDoor
