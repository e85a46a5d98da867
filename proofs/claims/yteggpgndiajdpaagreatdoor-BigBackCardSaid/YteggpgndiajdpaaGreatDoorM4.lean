/- Part 4 of a proof: Av18 to We. -/
import Derived.Test.YteggpgndiajdpaaGreatDoorM3
import Derived.Test.YteggpgndiajdpaaGreatDoorChecked
set_option maxRecDepth 100000
set_option linter.unusedVariables false
set_option linter.unusedSimpArgs false
namespace Go.Proofs.YteggpgndiajdpaaGreatDoor
open Go Go.RowKit
section
variable {x:Cx}{g g':Nat→FV}{ob ob':List (Option Ob)}{cs cs':List Co}{ts ts':Array Value}{W W':World}{T:List (Nat×TI)}{Q:Post}{ops:Array Oper}{d:Nat}{op:Op}{ty:TypeId}{pos:String}{af:Array Edge}{gd:Option (Nat×Bool)}{late:Nat→Bool}{K fr:List Nat}{on:Bool}{fuel:Nat}{listed:Array Bool}
theorem qK {v:FV}:∀j,some d≠some j→aH g d v j=g j:=fun j hj=>by
 have hb:Nat.beq j d=false:=by
  cases hq:Nat.beq j d
  ·rfl
  exact absurd (by rw[Nat.eq_of_beq_eq_true hq]) hj
 simp[aH,hb]
theorem dn (i:Nat) (hi:ops[i]? =some ⟨some d,op,ty,pos,af,gd⟩) (hst:gK ops late listed i=true) (hw:aJ ops x.n g gd=some false)
  (k:WD x ops Q late K fr true fuel (listed.setIfInBounds i true) (aH g d (.one (tv undef))) ob):WD x ops Q late K fr true (fuel+1) listed g ob:=by
 intro Kp W1 cs ts W hR hK1 hK2 hon
 have hk:=hon rfl
 simp only[gK,Bool.and_eq_true]at hst
 obtain⟨s1,s2,s3,s4⟩:=hst
 exact nH hi (Region.noSelect_spec s1) (fun c a w h=>h) (fun j oj hj hlj=>jQ s4 j oj hj hlj) fuel listed _ W (Region.free_spec hi s2) (by simpa using s3) (.inr ⟨fA hw hR,rfl⟩) hk.same
  (k Kp W1 cs _ W (hR.put d (v:=.one (tv undef)) (dH (by simp[tv,AR,FR]))) hK1 hK2 fun _=>hk.put hR.1 (v:=.one (tv undef)) (dH (by simp[tv,AR,FR])))
theorem WD.split {t:Nat}{p:Prop} [Decidable p] (h:lk x.n g (.tmp t)=.one (tv (.bool (decide p)))) (ht:g t=.one (tv (.bool (decide p)))) (h1:p→WD x ops Q late K fr on fuel listed (aH g t (.one (tv (.bool true)))) ob) (h2:¬p→WD x ops Q late K fr on fuel listed (aH g t (.one (tv (.bool false)))) ob):WD x ops Q late K fr on fuel listed g ob:=by
 have key:∀b:Bool,decide p=b→aH g t (.one (tv (.bool b)))=g:=fun b hb=>by
  funext i
  unfold aH
  cases hq:Nat.beq i t
  ·rfl
  rw[Nat.eq_of_beq_eq_true hq,ht,hb]
  rfl
 by_cases hp:p
 ·rw[←key true (by simp[hp])]
  exact h1 hp
 rw[←key false (by simp[hp])]
 exact h2 hp
theorem WL.split {t:Nat}{rest:List Oper}{p:Prop} [Decidable p] (ht:g t=.one (tv (.bool (decide p)))) (h1:p→WL x ops rest (aH g t (.one (tv (.bool true)))) ob Q) (h2:¬p→WL x ops rest (aH g t (.one (tv (.bool false)))) ob Q):WL x ops rest g ob Q:=by
 have key:∀b:Bool,decide p=b→aH g t (.one (tv (.bool b)))=g:=fun b hb=>by
  funext i
  unfold aH
  cases hq:Nat.beq i t
  ·rfl
  rw[Nat.eq_of_beq_eq_true hq,ht,hb]
  rfl
 by_cases hp:p
 ·rw[←key true (by simp[hp])]
  exact h1 hp
 rw[←key false (by simp[hp])]
 exact h2 hp
def Lp (K:List Nat) (ob:List (Option Ob)):Bool:=K.all fun k=>Nat.blt k ob.length
theorem Ht {o:Option Ob}{l:List (Option Ob)}(h:Lp K ob=true) (k:Nat) (hk:k∈K):(ob++l)[k]? =ob[k]? :=by
 have:=List.all_eq_true.1 h k hk
 have hlt:k<ob.length:=by simpa[Nat.blt,Nat.lt_iff_add_one_le]using this
 exact List.getElem?_append_left hlt
def mJ (ob ob':List (Option Ob)):List Nat→Prop
 | []=>True
 | k::K=>ob'[k]? =ob[k]? ∧mJ ob ob' K
theorem fX:∀{K:List Nat},mJ ob ob' K→∀k∈K,ob'[k]? =ob[k]?
 | [],_,k,hk=>by simp at hk
 | k0::K,h,k,hk=>by
  rcases List.mem_cons.1 hk with rfl | hk
  ·exact h.1
  exact fX h.2 k hk
theorem zR {o:Oper}{R:(Nat→FV)→List (Option Ob)→Prop}{v:FV}(i:Nat) (hr:Region.ready .any ops listed=[i]) (hi:ops[i]? =some o) (hd:o.dst=some d) (hw:aJ ops x.n g o.guard=some true) (h:OS x o g ob [] R)
  (hg:∀g' ob',R g' ob'→g'=aH g d v∧∀k∈K,ob'[k]? =ob[k]?) (k:∀g' ob',R g' ob'→WD x ops Q late K (d::fr) true fuel (listed.setIfInBounds i true) g' ob'):WD x ops Q late K fr true (fuel+1) listed g ob:=by
 refine xK i hr hi hw h true (fun _=>⟨rfl,fun _ _ h=>by simp at h⟩) (fun _=>rfl) (fun _ g' ob' hR=>?_) fun g' ob' hR=>by rw[hd];exact k g' ob' hR
 obtain⟨h1,h2⟩:=hg g' ob' hR
 exact⟨by rw[hd,h1];exact qK,h2⟩
theorem Lq {fresh:Bool}{f:FuncId}{args:List FV}{r v:FV}{aa:Array Operand}{ats:Array TypeId}(i:Nat) (hr:Region.ready .any ops listed=[i]) (hi:ops[i]? =some ⟨some d,.call ⟨.value (.func f),aa,ats⟩,ty,pos,af,gd⟩) (hw:aJ ops x.n g gd=some true) (hS:aI fresh x.P f [] args (aX r)) (hf:CallOk x.P f) (ha:AL fresh x g ob aa.toList args) (hv:oV r=v)
  (k:WD x ops Q late K (d::fr) true fuel (listed.setIfInBounds i true) (aH g d v) ob):WD x ops Q late K fr true (fuel+1) listed g ob:=
 zR (v:=v) i hr hi rfl hw (rT hS hf ha) (by rintro _ _ ⟨r',rfl,rfl,rfl⟩;exact⟨by rw[hv],fun _ _=>rfl⟩) (by rintro _ _ ⟨r',rfl,rfl,rfl⟩;rw[hv];exact k)
theorem eW {t key:Nat}(i:Nat) (hr:Region.ready .any ops listed=[i]) (hi:ops[i]? =some ⟨some d,.alloc t,ty,pos,af,gd⟩) (hw:aJ ops x.n g gd=some true) (hT:aU x.P T) (h:rN T t key ob=some ob') (hke:mJ ob ob' K)
  (k:WD x ops Q late K (d::fr) true fuel (listed.setIfInBounds i true) (aH g d (.one (.pt key 0))) ob'):WD x ops Q late K fr true (fuel+1) listed g ob:=
 zR (v:=.one (.pt key 0)) i hr hi rfl hw (zJ hT h) (by rintro _ _ ⟨rfl,rfl⟩;exact⟨rfl,fX hke⟩) (by rintro _ _ ⟨rfl,rfl⟩;exact k)
theorem zS {o:Oper}{R:(Nat→FV)→List (Option Ob)→Prop}{v:FV}(i:Nat) (hi:ops[i]? =some o) (hd:o.dst=some d) (hw:aJ ops x.n g o.guard=some true) (h:OS x o g ob [] R)
  (hg:∀g' ob',R g' ob'→g'=aH g d v∧∀k∈K,ob'[k]? =ob[k]?) (k:∀g' ob',R g' ob'→WD x ops Q late K (d::fr) true fuel (listed.setIfInBounds i true) g' ob'):WO x ops Q late K fr true fuel listed i g ob:=by
 refine Lk i hi hw h true (fun _=>⟨rfl,fun _ _ h=>by simp at h⟩) (fun _=>rfl) (fun _ g' ob' hR=>?_) fun g' ob' hR=>by rw[hd];exact k g' ob' hR
 obtain⟨h1,h2⟩:=hg g' ob' hR
 exact⟨by rw[hd,h1];exact qK,h2⟩
theorem Lr {fresh:Bool}{f:FuncId}{args:List FV}{r v:FV}{aa:Array Operand}{ats:Array TypeId}(i:Nat) (hi:ops[i]? =some ⟨some d,.call ⟨.value (.func f),aa,ats⟩,ty,pos,af,gd⟩) (hw:aJ ops x.n g gd=some true) (hS:aI fresh x.P f [] args (aX r)) (hf:CallOk x.P f) (ha:AL fresh x g ob aa.toList args) (hv:oV r=v)
  (k:WD x ops Q late K (d::fr) true fuel (listed.setIfInBounds i true) (aH g d v) ob):WO x ops Q late K fr true fuel listed i g ob:=
 zS (v:=v) i hi rfl hw (rT hS hf ha) (by rintro _ _ ⟨r',rfl,rfl,rfl⟩;exact⟨by rw[hv],fun _ _=>rfl⟩) (by rintro _ _ ⟨r',rfl,rfl,rfl⟩;rw[hv];exact k)
theorem cC {t key:Nat}(i:Nat) (hi:ops[i]? =some ⟨some d,.alloc t,ty,pos,af,gd⟩) (hw:aJ ops x.n g gd=some true) (hT:aU x.P T) (h:rN T t key ob=some ob') (hke:mJ ob ob' K)
  (k:WD x ops Q late K (d::fr) true fuel (listed.setIfInBounds i true) (aH g d (.one (.pt key 0))) ob'):WO x ops Q late K fr true fuel listed i g ob:=
 zS (v:=.one (.pt key 0)) i hi rfl hw (zJ hT h) (by rintro _ _ ⟨rfl,rfl⟩;exact⟨rfl,fX hke⟩) (by rintro _ _ ⟨rfl,rfl⟩;exact k)
theorem Ra {t len key:Nat}{ps:Array (Nat×Operand)}(i:Nat) (hr:Region.ready .any ops listed=[i]) (hi:ops[i]? =some ⟨some d,.buildSlice t len ps,ty,pos,af,gd⟩) (hw:aJ ops x.n g gd=some true) (hT:aU x.P T) (h:uW T x.n g t len key ps.toList ob=some ob') (hke:mJ ob ob' K)
  (k:WD x ops Q late K (d::fr) true fuel (listed.setIfInBounds i true) (aH g d (.one (.sl key 0 len))) ob'):WD x ops Q late K fr true (fuel+1) listed g ob:=
 zR (v:=.one (.sl key 0 len)) i hr hi rfl hw (Gj hT h) (by rintro _ _ ⟨rfl,rfl⟩;exact⟨rfl,fX hke⟩) (by rintro _ _ ⟨rfl,rfl⟩;exact k)
theorem Cb {C:Prop}{v:FV}(i:Nat) (hr:Region.ready .any ops listed=[i]) (hi:ops[i]? =some ⟨some d,op,ty,pos,af,gd⟩) (hw:aJ ops x.n g gd=some true) (hT:aU x.P T) (h:mX T x.n g op=some (C,v)) (hC:C)
  (k:WD x ops Q late K (d::fr) on fuel (listed.setIfInBounds i true) (aH g d v) ob) (hl:late i=false→on=true):WD x ops Q late K fr on (fuel+1) listed g ob:=by
 refine xK i hr hi hw (Lg hT h hC) on (fun h=>⟨h,fun _ _ h=>by simp at h⟩) hl (fun _ g' ob' hR=>?_) fun g' ob' hR=>?_
 ·obtain⟨rfl,rfl⟩:=hR
  exact⟨qK,fun _ _=>rfl⟩
 obtain⟨rfl,rfl⟩:=hR
 exact k
theorem Rb {t:Nat}{ti:TI}{a b:Operand}(i:Nat) (hr:Region.ready .any ops listed=[i]) (hi:ops[i]? =some ⟨none,.store t a b,ty,pos,af,gd⟩) (hw:aJ ops x.n g gd=some true) (hT:aU x.P T) (hti:aM T t=some ti) (h:pI ti ob (lk x.n g b) (lk x.n g a)=some ob') (hl:late i=true)
  (k:WD x ops Q late K fr false fuel (listed.setIfInBounds i true) g ob'):WD x ops Q late K fr on (fuel+1) listed g ob:=by
 obtain⟨ky,hs,_⟩:=zL (ty:=ty) (pos:=pos) (af:=af) (gd:=gd) hT hti h
 refine xK i hr hi hw hs false (fun h=>by cases h) (fun h=>by rw[hl]at h;cases h) (fun h=>by cases h) fun g' ob' hR=>?_
 obtain⟨rfl,rfl⟩:=hR
 exact k
theorem bQ {t key o:Nat}{ti:TI}{a b:Operand}(i:Nat) (hr:Region.ready .any ops listed=[i]) (hi:ops[i]? =some ⟨none,.store t a b,ty,pos,af,gd⟩) (hw:aJ ops x.n g gd=some true) (hT:aU x.P T) (hti:aM T t=some ti) (h:pI ti ob (lk x.n g b) (lk x.n g a)=some ob') (hlk:lk x.n g a=.one (.pt key o)) (hK:K.contains key=false) (hke:mJ ob ob' K)
  (k:WD x ops Q late K fr true fuel (listed.setIfInBounds i true) g ob'):WD x ops Q late K fr true (fuel+1) listed g ob:=by
 obtain⟨ky,hs,o2,hlk2⟩:=zL (ty:=ty) (pos:=pos) (af:=af) (gd:=gd) hT hti h
 rw[hlk]at hlk2
 injection hlk2 with e
 injection e with e1 e2
 subst e1
 refine xK i hr hi hw hs true (fun _=>⟨rfl,fun k hk hm=>?_⟩) (fun _=>rfl) (fun _ g' ob' hR=>?_) fun g' ob' hR=>?_
 ·rw[List.mem_singleton]at hm
  subst hm
  have:K.contains k=true:=by simpa using hk
  rw[hK]at this
  cases this
 ·obtain⟨rfl,rfl⟩:=hR
  exact⟨fun _ _=>rfl,fX hke⟩
 obtain⟨rfl,rfl⟩:=hR
 exact k
theorem WL.splitb {t:Nat}{rest:List Oper}{b:Bool}(ht:g t=.one (tv (.bool b))) (h1:b=true→WL x ops rest (aH g t (.one (tv (.bool true)))) ob Q) (h2:b=false→WL x ops rest (aH g t (.one (tv (.bool false)))) ob Q):WL x ops rest g ob Q:=by
 have key:∀b':Bool,b=b'→aH g t (.one (tv (.bool b')))=g:=fun b' hb=>by
  funext i
  unfold aH
  cases hq:Nat.beq i t
  ·rfl
  rw[Nat.eq_of_beq_eq_true hq,ht,hb]
  rfl
 cases hb:b
 ·rw[←key false hb]
  exact h2 hb
 rw[←key true hb]
 exact h1 hb
theorem WD.splitb {t:Nat}{b:Bool}(ht:g t=.one (tv (.bool b))) (h1:b=true→WD x ops Q late K fr on fuel listed (aH g t (.one (tv (.bool true)))) ob) (h2:b=false→WD x ops Q late K fr on fuel listed (aH g t (.one (tv (.bool false)))) ob):WD x ops Q late K fr on fuel listed g ob:=by
 have key:∀b':Bool,b=b'→aH g t (.one (tv (.bool b')))=g:=fun b' hb=>by
  funext i
  unfold aH
  cases hq:Nat.beq i t
  ·rfl
  rw[Nat.eq_of_beq_eq_true hq,ht,hb]
  rfl
 cases hb:b
 ·rw[←key false hb]
  exact h2 hb
 rw[←key true hb]
 exact h1 hb
theorem WL.cast {t:Nat}{rest:List Oper}{u u':Value}(ht:g t=.one (tv u)) (e:u=u') (k:WL x ops rest (aH g t (.one (tv u'))) ob Q):WL x ops rest g ob Q:=by
 have:aH g t (.one (tv u'))=g:=by
  funext i
  unfold aH
  cases hq:Nat.beq i t
  ·rfl
  rw[Nat.eq_of_beq_eq_true hq,ht,e]
  rfl
 rwa[this]at k
theorem WD.cast {t:Nat}{u u':Value}(ht:g t=.one (tv u)) (e:u=u') (k:WD x ops Q late K fr on fuel listed (aH g t (.one (tv u'))) ob):WD x ops Q late K fr on fuel listed g ob:=by
 have:aH g t (.one (tv u'))=g:=by
  funext i
  unfold aH
  cases hq:Nat.beq i t
  ·rfl
  rw[Nat.eq_of_beq_eq_true hq,ht,e]
  rfl
 rwa[this]at k
theorem dN {k:IntKind}{a b:Int}(h:a=b):Value.int k a=.int k b:=by rw[h]
theorem Sub.trans {g2:Nat→FV}{ob2:List (Option Ob)}(h:Sub x g ob g' ob') (h':Sub x g' ob' g2 ob2):Sub x g ob g2 ob2:=fun ts W hR=>h' ts W (h ts W hR)
theorem Sub.refl:Sub x g ob g ob:=fun _ _ h=>h
theorem nr {i:Nat}(key e z:Nat) (hz:Nat.beq z 0=false) (hk:cW ob key=true) (hi:Nat.blt i x.n=true) (hg:g i=.one (tv (.slice none 0 0))):Sub x g ob (aH g i (.one (.sl key 0 0))) (ob++[some ⟨e,z,[]⟩]):=by
 rintro ts W ⟨cs,hR⟩
 have hk:=Nat.eq_of_beq_eq_true hk
 have hi:i<x.n:=by simpa[Nat.blt,Nat.lt_iff_add_one_le]using hi
 have hz0:z≠0:=fun e=>by subst e;simp at hz
 have m1:=hR.push (Below.refl _ _) ⟨e,z,[]⟩ ⟨none,0,[]⟩ (by simp[aE]) (by simp[aE]) (by simp[aE]) (by simp[aN]) (fun _=>⟨rfl,hz0⟩)
 obtain⟨u,h1,h2⟩:=hR.fv hi
 rw[hg]at h2
 have h2:=aF h2
 subst h2
 have m2:=m1.put i (v:=.one (.sl key 0 0)) (u:=.slice none 0 0) (by
  refine dH ?_
  simp only[AR]
  rw[←hk,hR.len,eB]
  exact⟨by simp,by trivial,by trivial,by trivial⟩)
 have e:ts.setIfInBounds i (.slice none 0 0)=ts:=by
  apply Array.ext_getElem?
  intro j
  rw[Array.getElem?_setIfInBounds]
  split
  ·rename_i e
   subst e
   split
   ·exact h1.symm
   rename_i h9
   rw[hR.1]at h9
   exact absurd hi h9
  rfl
 rw[e]at m2
 exact⟨_,m2⟩
end
def rU (k:Nat):AV→Option (AV×List Ob)
 | .t (.s true t z n l)=>match Nat.beq z 0 with
  | false=>some (.sl k 0 n,[⟨t,z,l.map .t⟩])
  | true=>none
 | .t (.p true t l)=>some (.pt k 0,[⟨t,0,l.map .t⟩])
 | .t (.s false t z n l)=>some (.t (.s false t z n l),[])
 | .t (.p false t l)=>some (.t (.p false t l),[])
 | .t (.v v)=>some (.t (.v v),[])
 | .t (.f g l0 l)=>some (.t (.f g l0 l),[])
 | _=>none
def iV (k:Nat):List AV→Option (List AV×List Ob)
 | []=>some ([],[])
 | a::l=>match rU k a with
  | some (a',[])=>match iV k l with
   | some (l',os)=>some (a'::l',os)
   | none=>none
  | some (a',o::_)=>match iV (k+1) l with
   | some (l',os)=>some (a'::l',o::os)
   | none=>none
  | none=>none
def iE:VT→Co
 | .w _=>⟨none,0,[]⟩
 | .s b c _ _ _ l=>⟨some b,c,l⟩
 | .p b _ l=>⟨some b,0,l⟩
section
variable {W:World}{N:Nat→Prop}
theorem rV {k:Nat}{a a':AV}{os:List Ob}{y:VT}(hc:CR W N [] a y) (hok:y.ok W) (h:rU k a=some (a',os)):
  (os=[]∧y.fp=[]∧∀(N':Nat→Prop) (cs:List Co),(∀b,N b→N' b)→AR W N' cs a' y.val)∨
  (∃o,os=[o]∧(aE (some o) (iE y)).S=y.fp∧(aE (some o) (iE y)).φ W∧(∀(N':Nat→Prop) (cs:List Co),(∀b,N b→N' b)→k<cs.length→co cs k=iE y→AR W N' cs a' y.val∧aN W N' cs o.l (iE y).l)∧((iE y).b=none→o.l=[]∧o.z≠0)):=by
 unfold rU at h
 split at h
 ·rename_i t z n l
  split at h
  ·rename_i hz
   injection h with h
   injection h with h1 h2
   subst h1 h2
   refine .inr ⟨_,rfl,?_⟩
   have hz0:z≠0:=fun e=>by subst e;simp at hz
   simp only[CR]at hc
   cases y with
   | w u=>
    simp only[OR]at hc
    rcases hc with⟨_,rfl,rfl,rfl⟩ | ⟨hc,_⟩
    ·refine⟨rfl,by simp[aE,iE],fun N' cs hN hk hco=>⟨?_,by simp[aN,iE]⟩,fun _=>⟨rfl,hz0⟩⟩
     simp only[AR,hco,iE,VT.val]
     exact⟨hk,by trivial,by trivial,by trivial⟩
    cases hc
   | s b c t' z' n' l'=>
    simp only[OR]at hc
    obtain⟨_,rfl,rfl,rfl,hl⟩:=hc
    simp only[VT.ok]at hok
    obtain⟨k1,k2,k3,k4,k5⟩:=hok
    refine⟨rfl,?_,fun N' cs hN hk hco=>⟨?_,rS (ORL_keep (fun _ _=>rfl) hN _ _ hl)⟩,fun h=>by cases h⟩
    ·simp only[aE,iE]
     rw[hz,cond_false]
     exact⟨k1,k5,k3⟩
    simp only[AR,hco,iE,VT.val]
    exact⟨hk,0,c,rfl,k2,by unfold maxLen at k3;omega,fun _=>rfl,fun _=>rfl⟩
   | p b t' l'=>simp only[OR]at hc
  cases h
 ·rename_i t l
  injection h with h
  injection h with h1 h2
  subst h1 h2
  refine .inr ⟨_,rfl,?_⟩
  simp only[CR]at hc
  cases y with
  | w u=>
   simp only[OR]at hc
   cases hc.1
  | s b c t' z' n' l'=>simp only[OR]at hc
  | p b t' l'=>
   simp only[OR]at hc
   obtain⟨_,rfl,hl⟩:=hc
   simp only[VT.ok]at hok
   refine⟨rfl,?_,fun N' cs hN hk hco=>⟨?_,rS (ORL_keep (fun _ _=>rfl) hN _ _ hl)⟩,fun h=>by cases h⟩
   ·simp only[aE,iE]
    exact⟨hok.1,hok.2,Nat.zero_le _⟩
   simp only[AR,hco,iE,VT.val]
   exact⟨b,rfl,rfl⟩
 ·injection h with h
  injection h with h1 h2
  subst h1 h2
  have hr:=qE hc rfl
  refine .inl ⟨rfl,?_,fun N' cs hN=>dT (fun _ _=>rfl) hN ⟨Nat.zero_le _,fun k hk=>by simp at hk⟩ _ _ hr⟩
  simp only[CR]at hc
  cases y with
  | w u=>rfl
  | s=>simp only[OR]at hc;cases hc.1
  | p=>simp only[OR]at hc
 ·injection h with h
  injection h with h1 h2
  subst h1 h2
  have hr:=qE hc rfl
  refine .inl ⟨rfl,?_,fun N' cs hN=>dT (fun _ _=>rfl) hN ⟨Nat.zero_le _,fun k hk=>by simp at hk⟩ _ _ hr⟩
  simp only[CR]at hc
  cases y with
  | w u=>rfl
  | s=>simp only[OR]at hc
  | p=>simp only[OR]at hc;cases hc.1
 ·injection h with h
  injection h with h1 h2
  subst h1 h2
  have hr:=qE hc rfl
  refine .inl ⟨rfl,?_,fun N' cs hN=>dT (fun _ _=>rfl) hN ⟨Nat.zero_le _,fun k hk=>by simp at hk⟩ _ _ hr⟩
  simp only[CR,OR]at hc
  subst hc
  rfl
 ·injection h with h
  injection h with h1 h2
  subst h1 h2
  have hr:=qE hc rfl
  refine .inl ⟨rfl,?_,fun N' cs hN=>dT (fun _ _=>rfl) hN ⟨Nat.zero_le _,fun k hk=>by simp at hk⟩ _ _ hr⟩
  simp only[CR]at hc
  cases y with
  | w u=>rfl
  | s=>simp only[OR]at hc
  | p=>simp only[OR]at hc
 cases h
theorem oM:∀{l l':List AV}{k:Nat}{os:List Ob}{ys:List VT},aN W N [] l ys→VT.okL W ys→iV k l=some (l',os)→∃cs2:List Co,cs2.length=os.length∧(aB (os.map some) cs2).flatMap Res.S=VT.fpL ys∧(∀r∈aB (os.map some) cs2,r.φ W)∧
  ∀(N':Nat→Prop) (cs:List Co),(∀b,N b→N' b)→k+os.length≤cs.length→(∀i,i<os.length→co cs (k+i)=co cs2 i)→ARL W N' cs l' (ys.map VT.val)∧∀(i:Nat) (o:Ob),os[i]? =some o→aN W N' cs o.l (co cs2 i).l∧((co cs2 i).b=none→o.l=[]∧o.z≠0)
 | [],l',k,os,ys,hc,hok,h=>by
  simp only[aN]at hc
  subst hc
  simp[iV]at h
  obtain⟨rfl,rfl⟩:=h
  exact⟨[],rfl,rfl,by simp[aB],fun N' cs hN hk hco=>⟨by simp[ARL],fun i o ho=>by simp at ho⟩⟩
 | a::l,l',k,os,[],hc,hok,h=>by simp only[aN]at hc
 | a::l,l',k,os,y::ys,hc,hok,h=>by
  simp only[aN]at hc
  simp only[VT.okL]at hok
  unfold iV at h
  split at h
  ·rename_i a' ha
   split at h
   ·rename_i l2 os2 hl
    injection h with h
    injection h with h1 h2
    subst h1 h2
    obtain⟨cs2,e1,e2,e3,e4⟩:=oM hc.2 hok.2 hl
    rcases rV hc.1 hok.1 ha with⟨_,f1,f2⟩ | ⟨o,f1,_⟩
    ·refine⟨cs2,e1,by rw[e2];simp[VT.fpL,f1],e3,fun N' cs hN hk hco=>?_⟩
     obtain⟨g1,g2⟩:=e4 N' cs hN hk hco
     simp only[List.map_cons,ARL]
     exact⟨⟨f2 N' cs hN,g1⟩,g2⟩
    cases f1
   cases h
  ·rename_i a' o os0 ha
   split at h
   ·rename_i l2 os2 hl
    injection h with h
    injection h with h1 h2
    subst h1 h2
    obtain⟨cs2,e1,e2,e3,e4⟩:=oM hc.2 hok.2 hl
    rcases rV hc.1 hok.1 ha with⟨f1,_⟩ | ⟨o',f1,f2,f3,f4,f5⟩
    ·cases f1
    injection f1 with f1 _
    subst f1
    refine⟨iE y::cs2,by simp[e1],?_,?_,fun N' cs hN hk hco=>?_⟩
    ·unfold aB at e2⊢
     simp only[List.map_cons,List.zipWith_cons_cons,List.flatMap_cons,VT.fpL,f2,e2]
    ·unfold aB at e3⊢
     simp only[List.map_cons,List.zipWith_cons_cons]
     intro r hr
     rcases List.mem_cons.1 hr with rfl | hr
     ·exact f3
     exact e3 r hr
    simp only[List.length_cons]at hk hco
    have h0:=hco 0 (by omega)
    obtain⟨g1,g2⟩:=f4 N' cs hN (by omega) h0
    obtain⟨g3,g4⟩:=e4 N' cs hN (by omega) (fun i hi=>by
     have:=hco (i+1) (by omega)
     rw[show k+(i+1)=k+1+i by omega]at this
     rw[this]
     simp[co])
    simp only[List.map_cons,ARL]
    refine⟨⟨g1,g3⟩,fun i o ho=>?_⟩
    cases i with
    | zero=>
     simp at ho
     subst ho
     exact⟨g2,f5⟩
    | succ i=>
     have:=g4 i o (by simpa using ho)
     simpa[co]using this
   cases h
  cases h
end
def nX (k:Nat):FV→Option (FV×List Ob)
 | .one a=>match rU k a with
  | some (a',os)=>some (.one a',os)
  | none=>none
 | .agg l=>match iV k l with
  | some (l',os)=>some (.agg l',os)
  | none=>none
 | _=>none
def pP (k:Nat):List FV→Option (List FV×List Ob)
 | []=>some ([],[])
 | a::l=>match nX k a with
  | some (a',os)=>match pP (k+os.length) l with
   | some (l',os')=>some (a'::l',os++os')
   | none=>none
  | none=>none
def iR (k:Nat):FV→Option (FV×List Ob)
 | .tup l=>match pP k l with
  | some (l',os)=>some (.tup l',os)
  | none=>none
 | v=>nX k v
section
variable {W:World}{N:Nat→Prop}
def Bnd (W:World) (N:Nat→Prop) (k:Nat) (os:List Ob) (ys:List VT) (A:(Nat→Prop)→List Co→Prop):Prop:=∃cs2:List Co,cs2.length=os.length∧(aB (os.map some) cs2).flatMap Res.S=VT.fpL ys∧(∀r∈aB (os.map some) cs2,r.φ W)∧
  ∀(N':Nat→Prop) (cs:List Co),(∀b,N b→N' b)→k+os.length≤cs.length→(∀i,i<os.length→co cs (k+i)=co cs2 i)→A N' cs∧∀(i:Nat) (o:Ob),os[i]? =some o→aN W N' cs o.l (co cs2 i).l∧((co cs2 i).b=none→o.l=[]∧o.z≠0)
theorem rW {k:Nat}{r v:FV}{os:List Ob}{u:Value}{ys:List VT}(hr:mZ W N [] r u ys) (hok:VT.okL W ys) (h:nX k r=some (v,os)):Bnd W N k os ys (fun N' cs=>aR W N' cs v u):=by
 cases r with
 | any=>exact hr.elim
 | tup l=>exact hr.elim
 | one a=>
  obtain⟨z,rfl,rfl,hc⟩:=hr
  unfold nX at h
  dsimp only at h
  split at h
  ·rename_i a' os' ha
   injection h with h
   injection h with h1 h2
   subst h1 h2
   have hl:iV k [a]=some ([a'],os')∨∃o r,os'=o::r:=by
    cases os' with
    | nil=>left;simp[iV,ha]
    | cons o r=>exact .inr ⟨o,r,rfl⟩
   have hl2:iV k [a]=some ([a'],os'):=by
    rcases hl with hl | ⟨o,r,rfl⟩
    ·exact hl
    have hr':r=[]:=by
     rcases rV hc (by simpa[VT.okL]using hok) ha with⟨f1,_⟩ | ⟨o',f1,_⟩
     ·cases f1
     injection f1
    subst hr'
    simp[iV,ha]
   obtain⟨cs2,e1,e2,e3,e4⟩:=oM (l:=[a]) (ys:=[z]) (by simp only[aN];exact⟨hc,trivial⟩) hok hl2
   refine⟨cs2,e1,e2,e3,fun N' cs hN hk hco=>?_⟩
   obtain⟨g1,g2⟩:=e4 N' cs hN hk hco
   simp only[List.map_cons,ARL]at g1
   exact⟨g1.1,g2⟩
  cases h
 | agg l=>
  obtain⟨rfl,hc⟩:=hr
  unfold nX at h
  dsimp only at h
  split at h
  ·rename_i l' os' hl
   injection h with h
   injection h with h1 h2
   subst h1 h2
   obtain⟨cs2,e1,e2,e3,e4⟩:=oM hc hok hl
   refine⟨cs2,e1,e2,e3,fun N' cs hN hk hco=>?_⟩
   obtain⟨g1,g2⟩:=e4 N' cs hN hk hco
   exact⟨⟨_,rfl,g1⟩,g2⟩
  cases h
theorem Bnd.app {k:Nat}{os os':List Ob}{ys ys':List VT}{A B:(Nat→Prop)→List Co→Prop}(h:Bnd W N k os ys A) (h':Bnd W N (k+os.length) os' ys' B):Bnd W N k (os++os') (ys++ys') (fun N cs=>A N cs∧B N cs):=by
 obtain⟨c1,a1,a2,a3,a4⟩:=h
 obtain⟨c2,b1,b2,b3,b4⟩:=h'
 have hr:aB ((os++os').map some) (c1++c2)=aB (os.map some) c1++aB (os'.map some) c2:=by
  unfold aB
  rw[List.map_append,List.zipWith_append (by simp[a1])]
 have hc1:∀i,i<os.length→co (c1++c2) i=co c1 i:=fun i hi=>by simp[co,List.getElem?_append_left (show i<c1.length by omega)]
 have hc2:∀i,co (c1++c2) (os.length+i)=co c2 i:=fun i=>by
  unfold co
  rw[List.getElem?_append_right (by omega),show os.length+i-c1.length=i by omega]
 refine⟨c1++c2,by simp[a1,b1],by rw[hr,List.flatMap_append,a2,b2,fJ],fun r hm=>?_,fun N' cs hN hk hco=>?_⟩
 ·rw[hr]at hm
  rcases List.mem_append.1 hm with hm | hm
  ·exact a3 r hm
  exact b3 r hm
 simp only[List.length_append]at hk hco
 obtain⟨g1,g2⟩:=a4 N' cs hN (by omega) (fun i hi=>by rw[hco i (by omega),hc1 i hi])
 obtain⟨g3,g4⟩:=b4 N' cs hN (by omega) (fun i hi=>by
  have:=hco (os.length+i) (by omega)
  rw[hc2,show k+(os.length+i)=k+os.length+i by omega]at this
  exact this)
 refine⟨⟨g1,g3⟩,fun i o ho=>?_⟩
 rcases Nat.lt_or_ge i os.length with hi | hi
 ·rw[List.getElem?_append_left hi]at ho
  rw[hc1 i hi]
  exact g2 i o ho
 rw[List.getElem?_append_right hi]at ho
 have:=g4 (i-os.length) o ho
 rw[←hc2,show os.length+(i-os.length)=i by omega]at this
 exact this
theorem xZ:∀{l l':List FV}{k:Nat}{os:List Ob}{us:List Value}{ys:List VT},nQ W N [] l us ys→VT.okL W ys→pP k l=some (l',os)→Bnd W N k os ys (fun N' cs=>bM W N' cs l' us)
 | [],l',k,os,us,ys,hr,hok,h=>by
  simp[pP]at h
  obtain⟨rfl,rfl⟩:=h
  obtain⟨rfl,rfl⟩:=hr
  exact⟨[],rfl,rfl,by simp[aB],fun N' cs hN hk hco=>⟨by simp[bM],fun i o ho=>by simp at ho⟩⟩
 | a::l,l',k,os,us,ys,⟨v,vs,y1,y2,h1,h2,h3,h4⟩,hok,h=>by
  subst h1 h2
  rw[iC]at hok
  unfold pP at h
  split at h
  ·rename_i a' os1 ha
   split at h
   ·rename_i l2 os2 hl
    injection h with h
    injection h with e1 e2
    subst e1 e2
    have q1:=rW h3 hok.1 ha
    have q2:=xZ h4 hok.2 hl
    obtain⟨cs2,e1,e2,e3,e4⟩:=q1.app q2
    exact⟨cs2,e1,e2,e3,fun N' cs hN hk hco=>by
     obtain⟨g1,g2⟩:=e4 N' cs hN hk hco
     exact⟨by simp only[bM];exact g1,g2⟩⟩
   cases h
  cases h
theorem uZ {k:Nat}{r v:FV}{os:List Ob}{u:Value}{ys:List VT}(hr:RO W N [] r u ys) (hok:VT.okL W ys) (h:iR k r=some (v,os)):Bnd W N k os ys (fun N' cs=>aK W N' cs v u):=by
 cases r with
 | tup l=>
  obtain⟨us,rfl,h2⟩:=hr
  unfold iR at h
  dsimp only at h
  split at h
  ·rename_i l' os' hl
   injection h with h
   injection h with h1 h2
   subst h1 h2
   obtain⟨cs2,e1,e2,e3,e4⟩:=xZ h2 hok hl
   exact⟨cs2,e1,e2,e3,fun N' cs hN hk hco=>⟨⟨us,rfl,(e4 N' cs hN hk hco).1⟩,(e4 N' cs hN hk hco).2⟩⟩
  cases h
 | any=>exact hr.elim
 | one a=>
  obtain⟨cs2,e1,e2,e3,e4⟩:=rW (r:=.one a) hr hok h
  exact⟨cs2,e1,e2,e3,fun N' cs hN hk hco=>⟨fI (e4 N' cs hN hk hco).1,(e4 N' cs hN hk hco).2⟩⟩
 | agg l=>
  obtain⟨cs2,e1,e2,e3,e4⟩:=rW (r:=.agg l) hr hok h
  exact⟨cs2,e1,e2,e3,fun N' cs hN hk hco=>⟨fI (e4 N' cs hN hk hco).1,(e4 N' cs hN hk hco).2⟩⟩
end
section
variable {x:Cx}{g g':Nat→FV}{ob ob':List (Option Ob)}{cs cs':List Co}{ts ts':Array Value}{W W':World}{T:List (Nat×TI)}{Q:Post}{ops:Array Oper}{rest:List Oper}{d:Nat}{ty:TypeId}{pos:String}{af:Array Edge}{gd:Option (Nat×Bool)}
theorem vA {fresh:Bool}{f:FuncId}{args:List FV}{R:List Lt→FV→Prop}{aa:Array Operand}{ats:Array TypeId}{key:Nat}(hS:aI fresh x.P f [] args R) (hf:CallOk x.P f) (ha:AL fresh x g ob aa.toList args) (hk:cW ob key=true) (hb:∀r,R [] r→(iR key r).isSome=true):
  OS x ⟨some d,.call ⟨.value (.func f),aa,ats⟩,ty,pos,af,gd⟩ g ob [] (fun g' ob'=>∃r v os,R [] r∧iR key r=some (v,os)∧g'=aH g d v∧ob'=ob++os.map some):=by
 intro cs ts W hR K Q kk
 have hC:=sV hS ha hR
 obtain⟨fn,c,h1,h2,h3⟩:=hf
 have hrun:(execOp (Act.eval ⟨ts,[]⟩) ⟨some d,.call ⟨.value (.func f),aa,ats⟩,ty,pos,af,gd⟩).run x.P W=.ok (.enter f (aa.toList.map (Act.eval ⟨ts,[]⟩)).toArray) W:=by
  have e0:Act.eval ⟨ts,[]⟩ (.func f)=.func (.func f) #[] #[]:=rfl
  have e1:aa.map (Act.eval ⟨ts,[]⟩)=(aa.toList.map (Act.eval ⟨ts,[]⟩)).toArray:=by apply Array.ext';simp only[Array.toList_map]
  simp[execOp,resolve,e0,Deferred.ofValue,invoke,e1,callFunc,h1,h3]
  intro hn
  rw[hn]at h2
  simp at h2
 unfold Oper.wp
 rw[hrun]
 refine hC.mono fun e W' hE=>?_
 obtain⟨u,r,ys,rfl,hr,hbel,hok,hnd,hfp,hro⟩:=hE
 obtain⟨⟨v,os⟩,hbn⟩:=Option.isSome_iff_exists.1 (hb r hr)
 obtain⟨cs2,e1,e2,e3,e4⟩:=uZ hro hok hbn
 have hk:=Nat.eq_of_beq_eq_true hk
 have hlen:=hR.len
 have hrs:aB (ob++os.map some) (cs++cs2)=aB ob cs++aB (os.map some) cs2:=by
  unfold aB
  rw[List.zipWith_append hlen]
 have hext:=hR.2.ext hbel
 have hnew:∀b∈(aB (os.map some) cs2).flatMap Res.S,W.heap.size≤b∧b<W'.heap.size:=fun b hb=>hfp b (by rw[←e2];exact hb)
 have hL:Loc x.M x.w W' (aB (ob++os.map some) (cs++cs2)) []:=by
  rw[hrs]
  refine⟨hext.chg,fun q hq=>?_,fun b hb=>?_,?_,fun _ h=>by cases h⟩
  ·rcases List.mem_append.1 hq with hq | hq
   ·exact hext.res q hq
   exact e3 q hq
  ·rw[List.flatMap_append,List.mem_append]at hb
   rcases hb with hb | hb
   ·exact hext.blk b hb
   exact⟨.inr (Nat.le_trans hR.2.chg.size (hnew b hb).1),(hnew b hb).2⟩
  rw[List.flatMap_append,List.nodup_append]
  refine⟨hext.nd,by rw[e2];exact hnd,fun a ha b hb e=>?_⟩
  subst e
  have:=(hR.2.blk a ha).2
  have:=(hnew a hb).1
  omega
 have hown:∀b∈bH (ob++os.map some) (cs++cs2),b∈bH ob cs∨W.heap.size≤b:=fun b hb=>by
  unfold bH at hb
  rw[hrs,List.flatMap_append,List.mem_append]at hb
  rcases hb with hb | hb
  ·exact .inl hb
  exact .inr (hnew b hb).1
 have hsame:Same cs (cs++cs2):=⟨by simp,fun k hk=>by simp[co,List.getElem?_append_left hk]⟩
 have hcoA:∀k,k<cs.length→co (cs++cs2) k=co cs k:=fun k hk=>by simp[co,List.getElem?_append_left hk]
 have hcoB:∀i,co (cs++cs2) (key+i)=co cs2 i:=fun i=>by
  unfold co
  rw[List.getElem?_append_right (by omega),show key+i-cs.length=i by omega]
 have hN:∀b,x.fr W ob cs b→x.fr W' (ob++os.map some) (cs++cs2) b:=fun b h=>kK h hbel.size hown
 have hkeep:∀b,x.fr W ob cs b→W'.heap[b]? =W.heap[b]? :=fun b h=>hbel.block b h.1.1
 have hN2:∀b,(fresh=false∧b∉VT.fpL ys∧b<W'.heap.size∧(x.fr W ob cs b∨W.heap.size≤b))→x.fr W' (ob++os.map some) (cs++cs2) b:=fun b hb=>by
  obtain⟨_,h5,h6,h7⟩:=hb
  rcases h7 with h7 | h7
  ·exact hN b h7
  refine⟨⟨h6,fun hm=>?_⟩,.inr (.inr (Nat.le_trans hR.2.chg.size h7))⟩
  rw[hrs,List.flatMap_append,List.mem_append]at hm
  rcases hm with hm | hm
  ·have:=(hR.2.blk b hm).2
   omega
  exact h5 (by rw[←e2];exact hm)
 obtain⟨g1,g2⟩:=e4 _ (cs++cs2) hN2 (by simp[e1];omega) (fun i _=>hcoB i)
 have hR':RelC x g (ob++os.map some) (cs++cs2) ts W':=by
  refine .of hR.1 hL ⟨by simp[hlen,e1],fun k o hk'=>?_⟩ (fun i hi=>?_) (hR.3.trans hsame)
  ·rcases Nat.lt_or_ge k ob.length with hlt | hge
   ·rw[List.getElem?_append_left hlt]at hk'
    have h5:=hR.obs.2 k o hk'
    rw[hcoA k (by omega)]
    exact⟨bP hkeep hN hsame _ _ h5.1,h5.2⟩
   rw[List.getElem?_append_right hge]at hk'
   have ho:os[k-ob.length]? =some o:=by
    rw[List.getElem?_map]at hk'
    cases hq:os[k-ob.length]? with
    | none=>rw[hq]at hk';cases hk'
    | some o'=>
     rw[hq]at hk'
     simp at hk'
     rw[hk']
   have h5:=g2 _ o ho
   have e9:=hcoB (k-ob.length)
   rw[show key+(k-ob.length)=k by omega]at e9
   rw[e9]
   exact h5
  obtain⟨u,h5,h6⟩:=hR.fv hi
  exact⟨u,h5,cI hkeep hN hsame _ _ h6⟩
 exact kk _ _ _ _ _ ⟨r,v,os,hr,hbn,rfl,rfl⟩ (hR'.put d g1) ⟨hsame,fun k _ hk=>hcoA k hk,hbel.size,fun b hlt _=>hbel.block b hlt,hown,fun i hi=>Array.getElem?_setIfInBounds_ne (fun e=>hi (by rw[e]))⟩
theorem Hu {fresh:Bool}{f:FuncId}{args:List FV}{r v:FV}{os:List Ob}{aa:Array Operand}{ats:Array TypeId}{key:Nat}(hw:aJ ops x.n g gd=some true) (hS:aI fresh x.P f [] args (aX r)) (hf:CallOk x.P f) (ha:AL fresh x g ob aa.toList args) (hk:cW ob key=true) (hb:iR key r=some (v,os)) (k:WL x ops rest (aH g d v) (ob++os.map some) Q):
  WL x ops (⟨some d,.call ⟨.value (.func f),aa,ats⟩,ty,pos,af,gd⟩::rest) g ob Q:=
 eI (vA hS hf ha hk (by rintro _ rfl;rw[hb];rfl)) hw (by
  rintro _ _ ⟨r',v',os',rfl,h,rfl,rfl⟩
  rw[hb]at h
  injection h with h
  injection h with h1 h2
  subst h1 h2
  exact k)
theorem Hv {late:Nat→Bool}{K fr:List Nat}{fuel:Nat}{listed:Array Bool}{fresh:Bool}{f:FuncId}{args:List FV}{r v:FV}{os:List Ob}{aa:Array Operand}{ats:Array TypeId}{key:Nat}(i:Nat) (hr:Region.ready .any ops listed=[i]) (hi:ops[i]? =some ⟨some d,.call ⟨.value (.func f),aa,ats⟩,ty,pos,af,gd⟩) (hw:aJ ops x.n g gd=some true) (hS:aI fresh x.P f [] args (aX r)) (hf:CallOk x.P f) (ha:AL fresh x g ob aa.toList args) (hk:cW ob key=true) (hb:iR key r=some (v,os)) (hK:Lp K ob=true)
  (k:WD x ops Q late K (d::fr) true fuel (listed.setIfInBounds i true) (aH g d v) (ob++os.map some)):WD x ops Q late K fr true (fuel+1) listed g ob:=
 zR (v:=v) i hr hi rfl hw (vA hS hf ha hk (by rintro _ rfl;rw[hb];rfl)) (by
  rintro _ _ ⟨r',v',os',rfl,h,rfl,rfl⟩
  rw[hb]at h
  injection h with h
  injection h with h1 h2
  subst h1 h2
  exact⟨rfl,fun k hk'=>Ht (o:=none) hK k hk'⟩) (by
  rintro _ _ ⟨r',v',os',rfl,h,rfl,rfl⟩
  rw[hb]at h
  injection h with h
  injection h with h1 h2
  subst h1 h2
  exact k)
end
set_option maxRecDepth 100000
theorem TyArr.mk2 {P:Program}{t n size:Nat}(e:Nat) (h:P.underlying t=some (.array n e)) (h2:(P.info? e).map (·.size)=some size):TyArr P t n size:=by
 obtain⟨i,h3,h4⟩:=Option.map_eq_some_iff.1 h2
 exact⟨e,i,h,h3,h4⟩
theorem Sr:cY Tryz.prog 2 ⟨false,1,[.int .i64 0],.it .i64⟩:=⟨⟨.mk (by kernel_rfl) (by kernel_rfl),rfl⟩,.mk (by kernel_rfl),.mk (by kernel_rfl),.mk (by kernel_rfl)⟩
theorem Ss:cY Tryz.prog 3 ⟨false,1,[.int .i64 0],.it .i64⟩:=⟨⟨.mk (by kernel_rfl) (by kernel_rfl),rfl⟩,.mk (by kernel_rfl),.mk (by kernel_rfl),.mk (by kernel_rfl)⟩
theorem St:cY Tryz.prog 4 ⟨false,1,[.bool false],.bl⟩:=⟨⟨.mk (by kernel_rfl) (by kernel_rfl),rfl⟩,.mk (by kernel_rfl),.mk (by kernel_rfl),.mk (by kernel_rfl)⟩
theorem Su:cY Tryz.prog 5 ⟨false,1,[.int .u8 0],.it .u8⟩:=⟨⟨.mk (by kernel_rfl) (by kernel_rfl),rfl⟩,.mk (by kernel_rfl),.mk (by kernel_rfl),.mk (by kernel_rfl)⟩
theorem Sv:cY Tryz.prog 9 ⟨false,1,[.string ⟨#[]⟩],.str⟩:=⟨⟨.mk (by kernel_rfl) (by kernel_rfl),rfl⟩,.mk (by kernel_rfl),.mk (by kernel_rfl),.mk (by kernel_rfl)⟩
theorem Rc:cY Tryz.prog 22 ⟨false,1,[.int .u32 0],.it .u32⟩:=⟨⟨.mk (by kernel_rfl) (by kernel_rfl),rfl⟩,.mk (by kernel_rfl),.mk (by kernel_rfl),.mk (by kernel_rfl)⟩
theorem Re:cY Tryz.prog 23 ⟨false,1,[.slice none 0 0],.sl 22 1 4 (.int .u32 0)⟩:=⟨⟨.mk (by kernel_rfl) (by kernel_rfl),rfl⟩,.mk (by kernel_rfl),.mk (by kernel_rfl),⟨.mk (by kernel_rfl) (by kernel_rfl),.mk (by kernel_rfl) (by kernel_rfl) rfl (by decide)⟩⟩
theorem Rf:cY Tryz.prog 25 ⟨false,1,[.int .i64 0],.it .i64⟩:=⟨⟨.mk (by kernel_rfl) (by kernel_rfl),rfl⟩,.mk (by kernel_rfl),.mk (by kernel_rfl),.mk (by kernel_rfl)⟩
theorem Rg:cY Tryz.prog 28 ⟨false,1,[.slice none 0 0],.sl 5 1 1 (.int .u8 0)⟩:=⟨⟨.mk (by kernel_rfl) (by kernel_rfl),rfl⟩,.mk (by kernel_rfl),.mk (by kernel_rfl),⟨.mk (by kernel_rfl) (by kernel_rfl),.mk (by kernel_rfl) (by kernel_rfl) rfl (by decide)⟩⟩
theorem Rh:cY Tryz.prog 39 ⟨false,1,[.slice none 0 0],.sl 23 1 24 (.slice none 0 0)⟩:=⟨⟨.mk (by kernel_rfl) (by kernel_rfl),rfl⟩,.mk (by kernel_rfl),.mk (by kernel_rfl),⟨.mk (by kernel_rfl) (by kernel_rfl),.mk (by kernel_rfl) (by kernel_rfl) rfl (by decide)⟩⟩
theorem Ri:cY Tryz.prog 42 ⟨false,1,[.slice none 0 0],.sl 9 1 16 (.string ⟨#[]⟩)⟩:=⟨⟨.mk (by kernel_rfl) (by kernel_rfl),rfl⟩,.mk (by kernel_rfl),.mk (by kernel_rfl),⟨.mk (by kernel_rfl) (by kernel_rfl),.mk (by kernel_rfl) (by kernel_rfl) rfl (by decide)⟩⟩
theorem Rj:cY Tryz.prog 44 ⟨true,2,[.bool false,.slice none 0 0],.st [(0,4,1),(1,23,1)]⟩:=⟨.mk (by kernel_rfl) (by kernel_rfl),.mk (by kernel_rfl),.mk (by kernel_rfl),⟨⟨.mk (by kernel_rfl),.mk (by kernel_rfl),⟨.mk (by kernel_rfl),.mk (by kernel_rfl),trivial⟩⟩,.mk (by kernel_rfl)⟩⟩
theorem Rk:cY Tryz.prog 47 ⟨true,2,[.bool false,.slice none 0 0],.st [(0,4,1),(1,23,1)]⟩:=⟨.mk (by kernel_rfl) (by kernel_rfl),.mk (by kernel_rfl),.mk (by kernel_rfl),⟨⟨.mk (by kernel_rfl),.mk (by kernel_rfl),⟨.mk (by kernel_rfl),.mk (by kernel_rfl),trivial⟩⟩,.mk (by kernel_rfl)⟩⟩
theorem Rl:cY Tryz.prog 69 ⟨false,1,[.slice none 0 0],.sl 2 1 8 (.int .i64 0)⟩:=⟨⟨.mk (by kernel_rfl) (by kernel_rfl),rfl⟩,.mk (by kernel_rfl),.mk (by kernel_rfl),⟨.mk (by kernel_rfl) (by kernel_rfl),.mk (by kernel_rfl) (by kernel_rfl) rfl (by decide)⟩⟩
theorem Rm:cY Tryz.prog 71 ⟨false,1,[.slice none 0 0],.sl 44 2 32 (.agg #[.bool false,.slice none 0 0])⟩:=⟨⟨.mk (by kernel_rfl) (by kernel_rfl),rfl⟩,.mk (by kernel_rfl),.mk (by kernel_rfl),⟨.mk (by kernel_rfl) (by kernel_rfl),.mk (by kernel_rfl) (by kernel_rfl) rfl (by decide)⟩⟩
theorem Rn:cY Tryz.prog 79 ⟨false,1,[.nilIface],.ot⟩:=⟨⟨.mk (by kernel_rfl) (by kernel_rfl),rfl⟩,.mk (by kernel_rfl),.mk (by kernel_rfl),trivial⟩
theorem Ro:cY Tryz.prog 85 ⟨false,1,[.int .u64 0],.it .u64⟩:=⟨⟨.mk (by kernel_rfl) (by kernel_rfl),rfl⟩,.mk (by kernel_rfl),.mk (by kernel_rfl),.mk (by kernel_rfl)⟩
theorem Rp:cY Tryz.prog 87 ⟨true,9,[.int .u8 0,.int .u8 0,.int .u8 0,.int .u8 0,.int .u8 0,.int .u8 0,.int .u8 0,.int .u8 0,.int .u8 0],.ar 9 1⟩:=⟨.mk (by kernel_rfl) (by kernel_rfl),.mk (by kernel_rfl),.mk (by kernel_rfl),TyArr.mk2 5 (by kernel_rfl) (by kernel_rfl)⟩
theorem Ow:cY Tryz.prog 103 ⟨true,2,[.bool false,.slice none 0 0],.st [(0,44,2)]⟩:=⟨.mk (by kernel_rfl) (by kernel_rfl),.mk (by kernel_rfl),.mk (by kernel_rfl),⟨⟨.mk (by kernel_rfl),.mk (by kernel_rfl),trivial⟩,.mk (by kernel_rfl)⟩⟩
theorem Ox:cY Tryz.prog 105 ⟨false,1,[.int .u64 0],.it .u64⟩:=⟨⟨.mk (by kernel_rfl) (by kernel_rfl),rfl⟩,.mk (by kernel_rfl),.mk (by kernel_rfl),.mk (by kernel_rfl)⟩
theorem Oy:cY Tryz.prog 114 ⟨false,1,[.slice none 0 0],.sl 47 2 32 (.agg #[.bool false,.slice none 0 0])⟩:=⟨⟨.mk (by kernel_rfl) (by kernel_rfl),rfl⟩,.mk (by kernel_rfl),.mk (by kernel_rfl),⟨.mk (by kernel_rfl) (by kernel_rfl),.mk (by kernel_rfl) (by kernel_rfl) rfl (by decide)⟩⟩
theorem Oz:cY Tryz.prog 138 ⟨true,16,[.int .i64 0,.int .i64 0,.int .i64 0,.int .i64 0,.int .i64 0,.int .i64 0,.int .i64 0,.int .i64 0,.int .i64 0,.int .i64 0,.int .i64 0,.int .i64 0,.int .i64 0,.int .i64 0,.int .i64 0,.int .i64 0],.ar 16 1⟩:=⟨.mk (by kernel_rfl) (by kernel_rfl),.mk (by kernel_rfl),.mk (by kernel_rfl),TyArr.mk2 3 (by kernel_rfl) (by kernel_rfl)⟩
theorem Pa:cY Tryz.prog 142 ⟨false,1,[.slice none 0 0],.sl 3 1 8 (.int .i64 0)⟩:=⟨⟨.mk (by kernel_rfl) (by kernel_rfl),rfl⟩,.mk (by kernel_rfl),.mk (by kernel_rfl),⟨.mk (by kernel_rfl) (by kernel_rfl),.mk (by kernel_rfl) (by kernel_rfl) rfl (by decide)⟩⟩
theorem Pb:cY Tryz.prog 199 ⟨true,32,[.int .u8 0,.int .u8 0,.int .u8 0,.int .u8 0,.int .u8 0,.int .u8 0,.int .u8 0,.int .u8 0,.int .u8 0,.int .u8 0,.int .u8 0,.int .u8 0,.int .u8 0,.int .u8 0,.int .u8 0,.int .u8 0,.int .u8 0,.int .u8 0,.int .u8 0,.int .u8 0,.int .u8 0,.int .u8 0,.int .u8 0,.int .u8 0,.int .u8 0,.int .u8 0,.int .u8 0,.int .u8 0,.int .u8 0,.int .u8 0,.int .u8 0,.int .u8 0],.ar 32 1⟩:=⟨.mk (by kernel_rfl) (by kernel_rfl),.mk (by kernel_rfl),.mk (by kernel_rfl),TyArr.mk2 5 (by kernel_rfl) (by kernel_rfl)⟩
theorem Pc:cY Tryz.prog 200 ⟨true,64,[.int .u8 0,.int .u8 0,.int .u8 0,.int .u8 0,.int .u8 0,.int .u8 0,.int .u8 0,.int .u8 0,.int .u8 0,.int .u8 0,.int .u8 0,.int .u8 0,.int .u8 0,.int .u8 0,.int .u8 0,.int .u8 0,.int .u8 0,.int .u8 0,.int .u8 0,.int .u8 0,.int .u8 0,.int .u8 0,.int .u8 0,.int .u8 0,.int .u8 0,.int .u8 0,.int .u8 0,.int .u8 0,.int .u8 0,.int .u8 0,.int .u8 0,.int .u8 0,.int .u8 0,.int .u8 0,.int .u8 0,.int .u8 0,.int .u8 0,.int .u8 0,.int .u8 0,.int .u8 0,.int .u8 0,.int .u8 0,.int .u8 0,.int .u8 0,.int .u8 0,.int .u8 0,.int .u8 0,.int .u8 0,.int .u8 0,.int .u8 0,.int .u8 0,.int .u8 0,.int .u8 0,.int .u8 0,.int .u8 0,.int .u8 0,.int .u8 0,.int .u8 0,.int .u8 0,.int .u8 0,.int .u8 0,.int .u8 0,.int .u8 0,.int .u8 0],.ar 64 1⟩:=⟨.mk (by kernel_rfl) (by kernel_rfl),.mk (by kernel_rfl),.mk (by kernel_rfl),TyArr.mk2 5 (by kernel_rfl) (by kernel_rfl)⟩
def ttab:List (Nat×TI):=[(2,⟨false,1,[.int .i64 0],.it .i64⟩),
 (3,⟨false,1,[.int .i64 0],.it .i64⟩),
 (4,⟨false,1,[.bool false],.bl⟩),
 (5,⟨false,1,[.int .u8 0],.it .u8⟩),
 (9,⟨false,1,[.string ⟨#[]⟩],.str⟩),
 (22,⟨false,1,[.int .u32 0],.it .u32⟩),
 (23,⟨false,1,[.slice none 0 0],.sl 22 1 4 (.int .u32 0)⟩),
 (25,⟨false,1,[.int .i64 0],.it .i64⟩),
 (28,⟨false,1,[.slice none 0 0],.sl 5 1 1 (.int .u8 0)⟩),
 (39,⟨false,1,[.slice none 0 0],.sl 23 1 24 (.slice none 0 0)⟩),
 (42,⟨false,1,[.slice none 0 0],.sl 9 1 16 (.string ⟨#[]⟩)⟩),
 (44,⟨true,2,[.bool false,.slice none 0 0],.st [(0,4,1),(1,23,1)]⟩),
 (47,⟨true,2,[.bool false,.slice none 0 0],.st [(0,4,1),(1,23,1)]⟩),
 (69,⟨false,1,[.slice none 0 0],.sl 2 1 8 (.int .i64 0)⟩),
 (71,⟨false,1,[.slice none 0 0],.sl 44 2 32 (.agg #[.bool false,.slice none 0 0])⟩),
 (79,⟨false,1,[.nilIface],.ot⟩),
 (85,⟨false,1,[.int .u64 0],.it .u64⟩),
 (87,⟨true,9,[.int .u8 0,.int .u8 0,.int .u8 0,.int .u8 0,.int .u8 0,.int .u8 0,.int .u8 0,.int .u8 0,.int .u8 0],.ar 9 1⟩),
 (103,⟨true,2,[.bool false,.slice none 0 0],.st [(0,44,2)]⟩),
 (105,⟨false,1,[.int .u64 0],.it .u64⟩),
 (114,⟨false,1,[.slice none 0 0],.sl 47 2 32 (.agg #[.bool false,.slice none 0 0])⟩),
 (138,⟨true,16,[.int .i64 0,.int .i64 0,.int .i64 0,.int .i64 0,.int .i64 0,.int .i64 0,.int .i64 0,.int .i64 0,.int .i64 0,.int .i64 0,.int .i64 0,.int .i64 0,.int .i64 0,.int .i64 0,.int .i64 0,.int .i64 0],.ar 16 1⟩),
 (142,⟨false,1,[.slice none 0 0],.sl 3 1 8 (.int .i64 0)⟩),
 (199,⟨true,32,[.int .u8 0,.int .u8 0,.int .u8 0,.int .u8 0,.int .u8 0,.int .u8 0,.int .u8 0,.int .u8 0,.int .u8 0,.int .u8 0,.int .u8 0,.int .u8 0,.int .u8 0,.int .u8 0,.int .u8 0,.int .u8 0,.int .u8 0,.int .u8 0,.int .u8 0,.int .u8 0,.int .u8 0,.int .u8 0,.int .u8 0,.int .u8 0,.int .u8 0,.int .u8 0,.int .u8 0,.int .u8 0,.int .u8 0,.int .u8 0,.int .u8 0,.int .u8 0],.ar 32 1⟩),
 (200,⟨true,64,[.int .u8 0,.int .u8 0,.int .u8 0,.int .u8 0,.int .u8 0,.int .u8 0,.int .u8 0,.int .u8 0,.int .u8 0,.int .u8 0,.int .u8 0,.int .u8 0,.int .u8 0,.int .u8 0,.int .u8 0,.int .u8 0,.int .u8 0,.int .u8 0,.int .u8 0,.int .u8 0,.int .u8 0,.int .u8 0,.int .u8 0,.int .u8 0,.int .u8 0,.int .u8 0,.int .u8 0,.int .u8 0,.int .u8 0,.int .u8 0,.int .u8 0,.int .u8 0,.int .u8 0,.int .u8 0,.int .u8 0,.int .u8 0,.int .u8 0,.int .u8 0,.int .u8 0,.int .u8 0,.int .u8 0,.int .u8 0,.int .u8 0,.int .u8 0,.int .u8 0,.int .u8 0,.int .u8 0,.int .u8 0,.int .u8 0,.int .u8 0,.int .u8 0,.int .u8 0,.int .u8 0,.int .u8 0,.int .u8 0,.int .u8 0,.int .u8 0,.int .u8 0,.int .u8 0,.int .u8 0,.int .u8 0,.int .u8 0,.int .u8 0,.int .u8 0],.ar 64 1⟩)]
theorem aD:aU Tryz.prog ttab:=⟨Sr,Ss,St,Su,Sv,Rc,Re,Rf,Rg,Rh,Ri,Rj,Rk,Rl,Rm,Rn,Ro,Rp,Ow,Ox,Oy,Oz,Pa,Pb,Pc,trivial⟩
theorem Sx:CallOk Tryz.prog 9:=.mk Tryz.func9 (by decide) rfl
theorem Ls:CallOk Tryz.prog 14:=.mk Tryz.func14 (by decide) rfl
theorem iW:CallOk Tryz.prog 21:=.mk Tryz.func21 (by decide) rfl
theorem Fd:CallOk Tryz.prog 22:=.mk Tryz.func22 (by decide) rfl
theorem Rq:CallOk Tryz.prog 24:=.mk Tryz.func24 (by decide) rfl
theorem Rr:CallOk Tryz.prog 26:=.mk Tryz.func26 (by decide) rfl
theorem eN:CallOk Tryz.prog 27:=.mk Tryz.func27 (by decide) rfl
theorem Rs:CallOk Tryz.prog 28:=.mk Tryz.func28 (by decide) rfl
theorem zT:CallOk Tryz.prog 29:=.mk Tryz.func29 (by decide) rfl
theorem zU:CallOk Tryz.prog 32:=.mk Tryz.func32 (by decide) rfl
theorem jW:CallOk Tryz.prog 33:=.mk Tryz.func33 (by decide) rfl
theorem dO:CallOk Tryz.prog 34:=.mk Tryz.func34 (by decide) rfl
theorem eK:CallOk Tryz.prog 35:=.mk Tryz.func35 (by decide) rfl
theorem kX:CallOk Tryz.prog 36:=.mk Tryz.func36 (by decide) rfl
theorem fC:CallOk Tryz.prog 37:=.mk Tryz.func37 (by decide) rfl
theorem mK:CallOk Tryz.prog 38:=.mk Tryz.func38 (by decide) rfl
theorem zV:CallOk Tryz.prog 39:=.mk Tryz.func39 (by decide) rfl
theorem zW:CallOk Tryz.prog 40:=.mk Tryz.func40 (by decide) rfl
theorem vB:CallOk Tryz.prog 41:=.mk Tryz.func41 (by decide) rfl
theorem Ru:CallOk Tryz.prog 44:=.mk Tryz.func44 (by decide) rfl
theorem Lu:CallOk Tryz.prog 45:=.mk Tryz.func45 (by decide) rfl
theorem Rw:CallOk Tryz.prog 46:=.mk Tryz.func46 (by decide) rfl
theorem Lw:CallOk Tryz.prog 48:=.mk Tryz.func48 (by decide) rfl
theorem zX:CallOk Tryz.prog 49:=.mk Tryz.func49 (by decide) rfl
theorem rX:CallOk Tryz.prog 50:=.mk Tryz.func50 (by decide) rfl
theorem zY:CallOk Tryz.prog 51:=.mk Tryz.func51 (by decide) rfl
theorem Rx:CallOk Tryz.prog 56:=.mk Tryz.func56 (by decide) rfl
theorem Ry:CallOk Tryz.prog 57:=.mk Tryz.func57 (by decide) rfl
theorem Rz:CallOk Tryz.prog 58:=.mk Tryz.func58 (by decide) rfl
theorem Sa:CallOk Tryz.prog 59:=.mk Tryz.func59 (by decide) rfl
theorem Sb:CallOk Tryz.prog 67:=.mk Tryz.func67 (by decide) rfl
theorem Sc:CallOk Tryz.prog 68:=.mk Tryz.func68 (by decide) rfl
theorem gM:CallOk Tryz.prog 69:=.mk Tryz.func69 (by decide) rfl
theorem bB:CallOk Tryz.prog 73:=.mk Tryz.func73 (by decide) rfl
theorem Fe:CallOk Tryz.prog 77:=.mk Tryz.func77 (by decide) rfl
theorem Lx:CallOk Tryz.prog 78:=.mk Tryz.func78 (by decide) rfl
theorem Sd:CallOk Tryz.prog 79:=.mk Tryz.func79 (by decide) rfl
theorem Se:CallOk Tryz.prog 80:=.mk Tryz.func80 (by decide) rfl
theorem mixed:Tryz.prog.follows .mixedOrders=true:=by kernel_rfl
section
variable {x:Cx}{g:Nat→FV}{ob ob':List (Option Ob)}{Q:Post}{ops:Array Oper}{rest:List Oper}{d:Nat}{op:Op}{ty:TypeId}{pos:String}{af:Array Edge}{gd:Option (Nat×Bool)}{C:Prop}{v:FV}
theorem o1 (k:WL x ops rest (aH g d v) ob Q) (hT:aU x.P ttab:=by exact aD) (hw:aJ ops x.n g gd=some true:=by rfl) (h:mX ttab x.n g op=some (C,v):=by rfl) (hC:C:=by first | trivial | omega | (simp only[jA];omega)):WL x ops (⟨some d,op,ty,pos,af,gd⟩::rest) g ob Q:=Si hT hw h hC k
theorem ld {t:Nat}{i:TI}{a:Operand}(k:WL x ops rest (aH g d v) ob Q) (hT:aU x.P ttab:=by exact aD) (hw:aJ ops x.n g gd=some true:=by rfl) (hi:aM ttab t=some i:=by rfl) (h:lE ob i (lk x.n g a)=some (C,v):=by rfl):WL x ops (⟨some d,.load t a,ty,pos,af,gd⟩::rest) g ob Q:=Qv hT hw hi h k
theorem Ly {t:Nat}{i:TI}{a:Operand}{l:List Tr}{of:Nat}(us:List Tr) (hl:(l.drop of).take us.length=us) (k:WL x ops rest (aH g d v) ob Q) (hT:aU x.P ttab:=by exact aD) (hw:aJ ops x.n g gd=some true:=by rfl) (hi:aM ttab t=some i:=by rfl) (h:lk x.n g a=.one (.ef l of):=by rfl) (hv:uJ i us=some v:=by rfl):WL x ops (⟨some d,.load t a,ty,pos,af,gd⟩::rest) g ob Q:=Ot hT hw hi h hl hv k
theorem al {t:Nat}(key:Nat) (k:WL x ops rest (aH g d (.one (.pt key 0))) ob' Q) (hT:aU x.P ttab:=by exact aD) (hw:aJ ops x.n g gd=some true:=by rfl) (h:rN ttab t key ob=some ob':=by rfl):WL x ops (⟨some d,.alloc t,ty,pos,af,gd⟩::rest) g ob Q:=Qw hT hw h k
theorem bx {t:Nat}{a:Operand}(key:Nat) (k:WL x ops rest (aH g d (.one (.pt key 0))) ob' Q) (hw:aJ ops x.n g gd=some true:=by rfl) (h:zK t key (lk x.n g a) ob=some ob':=by rfl):WL x ops (⟨some d,.box t a,ty,pos,af,gd⟩::rest) g ob Q:=Qx hw h k
theorem st {t:Nat}{i:TI}{a b:Operand}(k:WL x ops rest g ob' Q) (hT:aU x.P ttab:=by exact aD) (hw:aJ ops x.n g gd=some true:=by rfl) (hi:aM ttab t=some i:=by rfl) (h:pI i ob (lk x.n g b) (lk x.n g a)=some ob':=by rfl):WL x ops (⟨none,.store t a b,ty,pos,af,gd⟩::rest) g ob Q:=Qy hT hw hi h k
theorem bs {t len:Nat}{ps:Array (Nat×Operand)}(key:Nat) (k:WL x ops rest (aH g d (.one (.sl key 0 len))) ob' Q) (hT:aU x.P ttab:=by exact aD) (hw:aJ ops x.n g gd=some true:=by rfl) (h:uW ttab x.n g t len key ps.toList ob=some ob':=by rfl):WL x ops (⟨some d,.buildSlice t len ps,ty,pos,af,gd⟩::rest) g ob Q:=Qz hT hw h k
theorem dY {o:Oper}(k:WL x ops rest (aH g d (.one (tv undef))) ob Q) (hw:aJ ops x.n g o.guard=some false:=by rfl) (hd:o.dst=some d:=by rfl):WL x ops (o::rest) g ob Q:=Qu hw hd k
theorem ca {fresh:Bool}{f:FuncId}{args:List FV}{r:FV}{aa:Array Operand}{ats:Array TypeId}(hS:aI fresh x.P f [] args (aX r)) (hf:CallOk x.P f) (ha:AL fresh x g ob aa.toList args) (v:FV) (k:WL x ops rest (aH g d v) ob Q) (hw:aJ ops x.n g gd=some true:=by rfl) (hv:oV r=v:=by rfl):
  WL x ops (⟨some d,.call ⟨.value (.func f),aa,ats⟩,ty,pos,af,gd⟩::rest) g ob Q:=Lo hw hS hf ha hv k
variable {late:Nat→Bool}{K fr:List Nat}{on:Bool}{fuel:Nat}{listed:Array Bool}
theorem dv (i:Nat) (k:WD x ops Q late K fr true fuel (listed.setIfInBounds i true) (aH g d v) ob) (hT:aU x.P ttab:=by exact aD) (hi:ops[i]? =some ⟨some d,op,ty,pos,af,gd⟩:=by rfl) (hst:gK ops late listed i=true:=by kernel_rfl) (hw:aJ ops x.n g gd=some true:=by rfl) (h:mX ttab x.n (gJ fr g) op=some (C,v):=by rfl) (hC:C:=by first | trivial | omega | (simp only[jA];omega)) (hg:mX ttab x.n g op=some (C,v):=by rfl):WD x ops Q late K fr true (fuel+1) listed g ob:=dt i hT hi hst hw h hC hg k
theorem df (i:Nat) (k:WD x ops Q late K (d::fr) true fuel (listed.setIfInBounds i true) (aH g d v) ob) (hT:aU x.P ttab:=by exact aD) (hi:ops[i]? =some ⟨some d,op,ty,pos,af,gd⟩:=by rfl) (hst:gK ops late listed i=true:=by kernel_rfl) (hw:aJ ops x.n g gd=some true:=by rfl) (h:mX ttab x.n g op=some (C,v):=by rfl) (hC:C:=by first | trivial | omega | (simp only[jA];omega)):WD x ops Q late K fr true (fuel+1) listed g ob:=Sj i hT hi hst hw h hC k
theorem aP {t:Nat}{ti:TI}{a:Operand}{key off:Nat}(i:Nat) (k:WD x ops Q late K fr true fuel (listed.setIfInBounds i true) (aH g d v) ob) (hT:aU x.P ttab:=by exact aD) (hi:ops[i]? =some ⟨some d,.load t a,ty,pos,af,gd⟩:=by rfl) (hst:gK ops late listed i=true:=by kernel_rfl) (hw:aJ ops x.n g gd=some true:=by rfl) (hti:aM ttab t=some ti:=by rfl) (hlk:lk x.n g a=.one (.pt key off):=by rfl) (hK:K.contains key=true:=by rfl) (h:lE ob ti (.one (.pt key off))=some (C,v):=by rfl):WD x ops Q late K fr true (fuel+1) listed g ob:=dl i hT hi hst hw hti hlk hK h k
theorem Qk {t:Nat}{ti:TI}{a:Operand}{l:List Tr}{of:Nat}(i:Nat) (us:List Tr) (hl:(l.drop of).take us.length=us) (k:WD x ops Q late K fr true fuel (listed.setIfInBounds i true) (aH g d v) ob) (hT:aU x.P ttab:=by exact aD) (hi:ops[i]? =some ⟨some d,.load t a,ty,pos,af,gd⟩:=by rfl) (hst:gK ops late listed i=true:=by kernel_rfl) (hw:aJ ops x.n g gd=some true:=by rfl) (hti:aM ttab t=some ti:=by rfl) (hlk:lk x.n (gJ fr g) a=.one (.ef l of):=by rfl) (hv:uJ ti us=some v:=by rfl):WD x ops Q late K fr true (fuel+1) listed g ob:=Sk i hT hi hst hw hti hlk hl hv k
theorem dI (i:Nat) (k:WD x ops Q late K fr true fuel (listed.setIfInBounds i true) (aH g d (.one (tv undef))) ob) (hi:ops[i]? =some ⟨some d,op,ty,pos,af,gd⟩:=by rfl) (hst:gK ops late listed i=true:=by kernel_rfl) (hw:aJ ops x.n g gd=some false:=by rfl):WD x ops Q late K fr true (fuel+1) listed g ob:=dn i hi hst hw k
theorem aO {fresh:Bool}{f:FuncId}{args:List FV}{r:FV}{aa:Array Operand}{ats:Array TypeId}(i:Nat) (hi:ops[i]? =some ⟨some d,.call ⟨.value (.func f),aa,ats⟩,ty,pos,af,gd⟩) (hS:aI fresh x.P f [] args (aX r)) (hf:CallOk x.P f) (ha:AL fresh x g ob aa.toList args) (v:FV) (k:WD x ops Q late K (d::fr) true fuel (listed.setIfInBounds i true) (aH g d v) ob) (hr:Region.ready .any ops listed=[i]:=by kernel_rfl) (hw:aJ ops x.n g gd=some true:=by rfl) (hv:oV r=v:=by rfl):WD x ops Q late K fr true (fuel+1) listed g ob:=Lq i hr hi hw hS hf ha hv k
theorem eY {fresh:Bool}{f:FuncId}{args:List FV}{r:FV}{aa:Array Operand}{ats:Array TypeId}(i:Nat) (hi:ops[i]? =some ⟨some d,.call ⟨.value (.func f),aa,ats⟩,ty,pos,af,gd⟩) (hS:aI fresh x.P f [] args (aX r)) (hf:CallOk x.P f) (ha:AL fresh x g ob aa.toList args) (v:FV) (k:WD x ops Q late K (d::fr) true fuel (listed.setIfInBounds i true) (aH g d v) ob) (hw:aJ ops x.n g gd=some true:=by rfl) (hv:oV r=v:=by rfl):WO x ops Q late K fr true fuel listed i g ob:=Lr i hi hw hS hf ha hv k
theorem dst {t:Nat}{ti:TI}{a b:Operand}(i:Nat) (k:WD x ops Q late K fr false fuel (listed.setIfInBounds i true) g ob') (hT:aU x.P ttab:=by exact aD) (hr:Region.ready .any ops listed=[i]:=by kernel_rfl) (hi:ops[i]? =some ⟨none,.store t a b,ty,pos,af,gd⟩:=by rfl) (hw:aJ ops x.n g gd=some true:=by rfl) (hti:aM ttab t=some ti:=by rfl) (h:pI ti ob (lk x.n g b) (lk x.n g a)=some ob':=by rfl) (hl:late i=true:=by rfl):WD x ops Q late K fr on (fuel+1) listed g ob:=Rb i hr hi hw hT hti h hl k
theorem nY {fresh:Bool}{f:FuncId}{args:List FV}{r:FV}{os:List Ob}{aa:Array Operand}{ats:Array TypeId}(key:Nat) (hS:aI fresh x.P f [] args (aX r)) (hf:CallOk x.P f) (ha:AL fresh x g ob aa.toList args) (k:WL x ops rest (aH g d v) (ob++os.map some) Q) (hw:aJ ops x.n g gd=some true:=by rfl) (hk:cW ob key=true:=by rfl) (hb:iR key r=some (v,os):=by rfl):
  WL x ops (⟨some d,.call ⟨.value (.func f),aa,ats⟩,ty,pos,af,gd⟩::rest) g ob Q:=Hu hw hS hf ha hk hb k
theorem Cc {fresh:Bool}{f:FuncId}{args:List FV}{r:FV}{os:List Ob}{aa:Array Operand}{ats:Array TypeId}(key i:Nat) (hi:ops[i]? =some ⟨some d,.call ⟨.value (.func f),aa,ats⟩,ty,pos,af,gd⟩) (hS:aI fresh x.P f [] args (aX r)) (hf:CallOk x.P f) (ha:AL fresh x g ob aa.toList args) (k:WD x ops Q late K (d::fr) true fuel (listed.setIfInBounds i true) (aH g d v) (ob++os.map some)) (hr:Region.ready .any ops listed=[i]:=by kernel_rfl) (hw:aJ ops x.n g gd=some true:=by rfl) (hk:cW ob key=true:=by rfl) (hb:iR key r=some (v,os):=by rfl) (hK:Lp K ob=true:=by rfl):WD x ops Q late K fr true (fuel+1) listed g ob:=Hv i hr hi hw hS hf ha hk hb hK k
theorem bU (h:Q .normal g ob) (hr:Region.ready .any ops listed=[]:=by kernel_rfl):WD x ops Q late K fr on fuel listed g ob:=dz hr h
end
theorem Cd {β:Type}:∀{o:Nat}{l:List AV}{a:AV}{r:List AV}{k:List AV→Option β},l.drop o=a::r→dp o l k=k (a::r)
 | 0,l,a,r,k,h=>by rw[List.drop_zero]at h;subst h;rfl
 | o+1,[],a,r,k,h=>by simp at h
 | o+1,b::l,a,r,k,h=>by
  rw[List.drop_succ_cons]at h
  exact Cd (o:=o) h
theorem Lz {ob:List (Option Ob)}{i:TI}{k o t z:Nat}{l:List AV}{a:AV}(ho:bE ob k=some ⟨t,z,l⟩) (hx:l[o]? =some a) (ha:i.agg=false) (hr:kL a=true):lE ob i (.one (.pt k o))=some (True,.one a):=by
 obtain⟨h1,h2⟩:=List.getElem?_eq_some_iff.1 hx
 have h3:l.drop o=a::l.drop (o+1):=by rw[List.drop_eq_getElem_cons h1,h2]
 unfold lE
 dsimp only
 rw[ho]
 dsimp only
 unfold Lh
 rw[Cd h3,ha]
 simp[uI,eM,hr,ev]
section
variable {x:Cx}{g:Nat→FV}{ob ob':List (Option Ob)}{Q:Post}{ops:Array Oper}{rest:List Oper}{d:Nat}{ty:TypeId}{pos:String}{af:Array Edge}{gd:Option (Nat×Bool)}{T:List (Nat×TI)}
theorem Pd {t e by_ k m:Nat}{ti:Bool}{ts0:Nat}{z0:List Value}{kk k1 k2:IntKind}{a b:Operand}(hT:aU x.P T) (ht:aM T t=some ⟨ti,ts0,z0,.sl e 1 by_ (.int kk 0)⟩) (ha:lk x.n g a=.one (tv (.int k1 (m:Int)))) (hb:lk x.n g b=.one (tv (.int k2 (m:Int)))) (hby:by_≤16) (hm:m≤8796093022208) (hk:cW ob k=true):
  OS x ⟨some d,.makeSlice t a b,ty,pos,af,gd⟩ g ob [] (fun g' ob2=>g'=aH g d (.one (.sl k 0 m))∧ob2=ob++[some ⟨e,1,(List.replicate m (Value.int kk 0)).map tv⟩]):=by
 obtain⟨_,hel⟩:=(bI hT ht).2.2.2
 obtain⟨hu,i,hi,hz,hsize,hby',hzs,hsz⟩:=hel
 subst hby'
 have hk:=Nat.eq_of_beq_eq_true hk
 subst hk
 intro cs ts W hR K Q' kk'
 have e1:=hR.lk a
 rw[ha]at e1
 have e1:=aF e1
 have e2:=hR.lk b
 rw[hb]at e2
 have e2:=aF e2
 have hmul:i.bytes*m≤16*8796093022208:=Nat.mul_le_mul hby hm
 obtain⟨w',hrun,h1,h2⟩:=run_make_full (P:=x.P) W 0 t e i (.int kk 0) 1 hu hi hz hsize k1 k2 m (by omega) (by unfold maxLen;omega) (Nat.zero_le _)
 have hrun':(execOp (Act.eval ⟨ts,[]⟩) ⟨some d,.makeSlice t a b,ty,pos,af,gd⟩).run x.P W=.ok (.value (.slice (some ⟨W.heap.size,0,none⟩) m m)) w':=by
  simp[execOp,e1,e2,hrun]
 have e0:(madeCells (Value.int kk 0).cells (m*1)).toList=List.replicate m (.int kk 0):=by
  rw[Nat.mul_one]
  show(madeCells #[Value.int kk 0] m).toList=_
  rw[toList_madeCells_one]
 rw[e0]at h1
 generalize hus:List.replicate m (Value.int kk 0)=us at h1 kk'
 have hbl:Below W.heap.size W w':=(Below.refl _ _).grown h2 (Nat.le_refl _) (fun k hk=>by cases hk)
 rcases h1.2 with⟨hh,_⟩ | ⟨g1,cap,cur,hv,_,hg,hnc,hcm,hcs,htake⟩
 ·injection hh with h3;cases h3
 injection hv with q1 q2 q3
 injection q1 with q1
 injection q1 with q1
 subst q1 q3
 have hlt:W.heap.size<w'.heap.size:=(Array.getElem?_eq_some_iff.1 hg).1
 have hcur:cur.toList=us:=by
  have h9:cur.toList.length=m*1:=by simpa using hcs
  rw[←htake,List.take_of_length_le (by omega)]
 have hS:∀b∈(aE (some ⟨e,1,us.map tv⟩) ⟨some W.heap.size,m,us.map .w⟩).S,W.heap.size≤b∧b<w'.heap.size:=by
  intro b hb
  simp[aE,gI]at hb
  subst hb
  exact⟨Nat.le_refl _,hlt⟩
 have hown:∀b∈bH (ob++[some ⟨e,1,us.map tv⟩]) (cs++[⟨some W.heap.size,m,us.map .w⟩]),b∈bH ob cs∨W.heap.size≤b:=by
  intro b hb
  unfold bH aB at hb
  rw[List.zipWith_append hR.len,List.flatMap_append,List.mem_append]at hb
  rcases hb with hb | hb
  ·exact .inl hb
  exact .inr (hS b (by simpa using hb)).1
 have m1:RelC x g (ob++[some ⟨e,1,us.map tv⟩]) (cs++[⟨some W.heap.size,m,us.map .w⟩]) ts w':=by
  refine hR.push hbl _ _ ?_ hS (by simp[aE,gI]) ?_ (fun e=>by cases e)
  ·have hul:us.length=m:=by rw[←hus,List.length_replicate]
   simp only[aE,mG]
   refine⟨⟨[],?_,by simp[hul]⟩,mF _,hcm⟩
   rw[List.append_nil,hg,←hcur]
  exact lF (gG _) (nN _)
 refine cD hrun' (kk' _ _ _ _ _ ⟨rfl,rfl⟩ (m1.put d ?_) ((Aft.mk .app (fun k _ hk=>jT hk) hbl.size (fun b hlt _=>hbl.block b hlt) hown (fun _ _=>rfl):Aft [] (some d) ob cs ts W _ _ ts w').then_put _))
 refine dH ?_
 simp only[AR]
 rw[hR.len,eB]
 exact⟨by simp[hR.len],0,m,rfl,Nat.le_refl _,hcm,fun _=>rfl,fun _=>rfl⟩
inductive FzN (key:Nat):List AV→List AV→Prop
 | nil:FzN key [] []
 | id {a:AV}{l l':List AV}(h:FzN key l l'):FzN key (a::l) (a::l')
 | sl {l l':List AV}(h:FzN key l l'):FzN key (tv (.slice none 0 0)::l) (.sl key 0 0::l')
theorem FzN.ok {key:Nat}{W:World}{N:Nat→Prop}{cs:List Co}(hk:key<cs.length) (hb:(co cs key).b=none):∀{l l':List AV},FzN key l l'→∀{ys:List VT},aN W N cs l ys→aN W N cs l' ys
 | _,_,.nil,ys,h=>h
 | _,_,.id h',[],h=>by simp only[aN]at h
 | _,_,.id h',y::ys,h=>by
  simp only[aN]at h⊢
  exact⟨h.1,FzN.ok hk hb h' h.2⟩
 | _,_,.sl h',[],h=>by simp only[aN]at h
 | _,_,.sl h',y::ys,h=>by
  simp only[aN]at h⊢
  refine⟨?_,FzN.ok hk hb h' h.2⟩
  have h1:=h.1
  simp only[tv,CR,OR]at h1
  subst h1
  simp only[CR,AR,hb]
  exact⟨hk,trivial,trivial,trivial⟩
theorem FzN.nl {key:Nat}:∀{l l':List AV},FzN key l l'→(l=[]↔l'=[])
 | _,_,.nil=>Iff.rfl
 | _,_,.id h'=>by simp
 | _,_,.sl h'=>by simp
theorem mk {t e by_ m:Nat}{ti:Bool}{ts0:Nat}{z0:List Value}{kk k1 k2:IntKind}{a b:Operand}(key:Nat) (hm:m≤8796093022208){l:List AV}(hl:(List.replicate m (Value.int kk 0)).map tv=l) (k:WL x ops rest (aH g d (.one (.sl key 0 m))) (ob++[some ⟨e,1,l⟩]) Q) (hT:aU x.P ttab:=by exact aD) (hw:aJ ops x.n g gd=some true:=by rfl)
  (ht:aM ttab t=some ⟨ti,ts0,z0,.sl e 1 by_ (.int kk 0)⟩:=by rfl) (ha:lk x.n g a=.one (tv (.int k1 (m:Int))):=by rfl) (hb:lk x.n g b=.one (tv (.int k2 (m:Int))):=by rfl) (hby:by_≤16:=by decide) (hk:cW ob key=true:=by rfl):WL x ops (⟨some d,.makeSlice t a b,ty,pos,af,gd⟩::rest) g ob Q:=by
 subst hl
 exact eI (Pd hT ht ha hb hby hm hk) hw (by rintro _ _ ⟨rfl,rfl⟩;exact k)
theorem Sy {t key o t' z':Nat}{ti:TI}{a b:Operand}{l l' us:List AV}(hl:cJ l o us=l') (hle:o+us.length≤l.length) (k:WL x ops rest g (ob.set key (some ⟨t',z',l'⟩)) Q) (hT:aU x.P ttab:=by exact aD) (hw:aJ ops x.n g gd=some true:=by rfl) (hti:aM ttab t=some ti:=by rfl) (hlk:lk x.n g a=.one (.pt key o):=by rfl) (ho:bE ob key=some ⟨t',z',l⟩:=by rfl)
  (hb:nM (lk x.n g b)=some us:=by rfl) (hlo:cK us=true:=by rfl) (hsz:Nat.beq us.length ti.size=true:=by rfl):WL x ops (⟨none,.store t a b,ty,pos,af,gd⟩::rest) g ob Q:=
 eI (qG hT hti hlk hb hlo hsz ho hle hl) hw (by rintro _ _ ⟨rfl,rfl⟩;exact k)
variable {late:Nat→Bool}{K fr:List Nat}{on:Bool}{fuel:Nat}{listed:Array Bool}
theorem Ma {t key o t' z':Nat}{ti:TI}{a b:Operand}{l l' us:List AV}(i:Nat) (hl:cJ l o us=l') (hle:o+us.length≤l.length) (k:WD x ops Q late K fr false fuel (listed.setIfInBounds i true) g (ob.set key (some ⟨t',z',l'⟩))) (hT:aU x.P ttab:=by exact aD) (hr:Region.ready .any ops listed=[i]:=by kernel_rfl) (hi:ops[i]? =some ⟨none,.store t a b,ty,pos,af,gd⟩:=by rfl) (hw:aJ ops x.n g gd=some true:=by rfl) (hti:aM ttab t=some ti:=by rfl)
  (hlk:lk x.n g a=.one (.pt key o):=by rfl) (ho:bE ob key=some ⟨t',z',l⟩:=by rfl) (hb:nM (lk x.n g b)=some us:=by rfl) (hlo:cK us=true:=by rfl) (hsz:Nat.beq us.length ti.size=true:=by rfl) (hlate:late i=true:=by rfl):WD x ops Q late K fr on (fuel+1) listed g ob:=by
 refine xK i hr hi hw (qG (ty:=ty) (pos:=pos) (af:=af) (gd:=gd) hT hti hlk hb hlo hsz ho hle hl) false (fun h=>by cases h) (fun h=>by rw[hlate]at h;cases h) (fun h=>by cases h) fun g' ob' hR=>?_
 obtain⟨rfl,rfl⟩:=hR
 exact k
end
theorem Loc.cut {M:List Nat}{w W:World}{L L':List Res}{F:List Sh}(h:Loc M w W L F) (hc:∀b,(L'.flatMap Res.S).count b≤(L.flatMap Res.S).count b) (hφ:∀r∈L',r.φ W):Loc M w W L' F:=by
 have hin:∀b,b∈L'.flatMap Res.S→b∈L.flatMap Res.S:=fun b hb=>List.count_pos_iff.1 (Nat.lt_of_lt_of_le (List.count_pos_iff.2 hb) (hc b))
 exact⟨h.chg,hφ,fun b hb=>h.blk b (hin b hb),List.nodup_iff_count.2 fun b=>Nat.le_trans (hc b) (List.nodup_iff_count.1 h.nd b),fun q hq=>q.mono _ _ _ (fun b hb=>⟨hb.1,fun hm=>hb.2 (hin b hm)⟩) (h.shr q hq)⟩
section
variable {x:Cx}{g g':Nat→FV}{ob ob':List (Option Ob)}{cs cs':List Co}{ts ts':Array Value}{W W':World}{T:List (Nat×TI)}{Q:Post}{ops:Array Oper}{rest:List Oper}
theorem Same.set {k:Nat}{c:Co}(hk:k<cs.length) (hb:c.b=(co cs k).b) (hc:c.c=(co cs k).c):Same cs (cs.set k c):=⟨by simp,fun j hj=>by
 rw[nL hk]
 split
 ·rename_i e
  subst e
  exact⟨hb,hc⟩
 exact⟨rfl,rfl⟩⟩
end
def dJ (ob:List (Option Ob)) (K0:List Nat):List Nat→List Lt→Prop
 | [],l=>l=[]
 | _::_,[]=>False
 | k::K,a::l=>xM K0 (bE ob k) a.ob∧dJ ob K0 K l
def cS (K0:List Nat):List Lt→List (Option Ob)→Prop
 | [],l=>l=[]
 | _::_,[]=>False
 | a::l,o::os=>xM K0 o a.ob∧cS K0 l os
def aQ:List (Option Ob)→List Nat→List (Option Ob)→List (Option Ob)
 | ob,k::K,a::l=>aQ (ob.set k a) K l
 | ob,_,_=>ob
def bR:List Co→List Nat→List Co→List Co
 | cs,k::K,c::l=>bR (cs.set k c) K l
 | cs,_,_=>cs
def aV (K:List Nat):List (Option Ob):=K.map fun _=>none
def nB (n:Nat) (g:Nat→FV) (K:List Nat):List Operand→List FV→Prop
 | [],aa=>aa=[]
 | _::_,[]=>False
 | o::os,a::aa=>pJ K a=some (lk n g o)∧nB n g K os aa
def Mb (x:Cx) (g:Nat→FV) (cf:Operand) (f:FuncId) (fst caps:List Tr):Prop:=∀ob cs ts W,RelC x g ob cs ts W→∃us0 us,Act.eval ⟨ts,[]⟩ cf=.func (.func f) us0.toArray us.toArray∧FRL W (x.fr W ob cs) fst us0∧FRL W (x.fr W ob cs) caps us
def Gk:Tr→FV
 | .a l=>.agg (l.map .t)
 | c=>.one (.t c)
def dP (caps:List Tr):List FV:=caps.map Gk
section
variable {x:Cx}{g g':Nat→FV}{ob ob':List (Option Ob)}{cs cs':List Co}{ts ts':Array Value}{W W':World}
theorem zZ (f:FuncId):Mb x g (.func f) f [] []:=fun _ _ _ _ _=>⟨[],[],rfl,by simp[FRL],by simp[FRL]⟩
theorem yA {N:Nat→Prop}:∀{l:List Tr}{us:List Value},FRL W N l us→ARL W N cs (l.map .t) us
 | [],us,h=>by simpa[FRL,ARL]using h
 | y::l,[],h=>by simp only[FRL]at h
 | y::l,u::us,h=>by
  simp only[FRL]at h
  simp only[List.map_cons,ARL,AR]
  exact⟨h.1,yA h.2⟩
theorem cT:∀{K:List Nat}{l:List (Option Ob)}{ob:List (Option Ob)},(aQ ob K l).length=ob.length
 | [],l,ob=>by simp[aQ]
 | k::K,[],ob=>by simp[aQ]
 | k::K,a::l,ob=>by simp[aQ,cT (K:=K)]
theorem fW:∀{K:List Nat}{l:List Co}{cs:List Co},(bR cs K l).length=cs.length
 | [],l,cs=>by simp[bR]
 | k::K,[],cs=>by simp[bR]
 | k::K,a::l,cs=>by simp[bR,fW (K:=K)]
theorem dG:∀{K:List Nat}{l:List (Option Ob)}{ob:List (Option Ob)}{j:Nat},j∉K→(aQ ob K l)[j]? =ob[j]?
 | [],l,ob,j,_=>by simp[aQ]
 | k::K,[],ob,j,_=>by simp[aQ]
 | k::K,a::l,ob,j,h=>by
  simp only[List.mem_cons,not_or]at h
  simp only[aQ]
  rw[dG h.2,List.getElem?_set_ne (fun e=>h.1 e.symm)]
theorem iF:∀{K:List Nat}{l:List Co}{cs:List Co}{j:Nat},j∉K→co (bR cs K l) j=co cs j
 | [],l,cs,j,_=>by simp[bR]
 | k::K,[],cs,j,_=>by simp[bR]
 | k::K,a::l,cs,j,h=>by
  simp only[List.mem_cons,not_or]at h
  simp only[bR]
  rw[iF h.2]
  unfold co
  rw[List.getElem?_set_ne (fun e=>h.1 e.symm)]
theorem fK:∀{K:List Nat}{l:List (Option Ob)}{ob:List (Option Ob)}{i k:Nat},K.Nodup→l.length=K.length→K[i]? =some k→k<ob.length→(aQ ob K l)[k]? =l[i]?
 | [],l,ob,i,k,_,_,h,_=>by simp at h
 | k0::K,[],ob,i,k,_,hl,_,_=>by simp at hl
 | k0::K,a::l,ob,0,k,hn,hl,h,hk=>by
  simp at h
  subst h
  have hn:=List.nodup_cons.1 hn
  simp only[aQ]
  rw[dG hn.1,List.getElem?_set_self hk]
  rfl
 | k0::K,a::l,ob,i+1,k,hn,hl,h,hk=>by
  have hn:=List.nodup_cons.1 hn
  simp only[aQ]
  exact fK hn.2 (by simpa using hl) (by simpa using h) (by simpa using hk)
theorem yB:∀{K:List Nat}{l:List Co}{cs:List Co}{i k:Nat},K.Nodup→l.length=K.length→K[i]? =some k→k<cs.length→co (bR cs K l) k=co l i
 | [],l,cs,i,k,_,_,h,_=>by simp at h
 | k0::K,[],cs,i,k,_,hl,_,_=>by simp at hl
 | k0::K,a::l,cs,0,k,hn,hl,h,hk=>by
  simp at h
  subst h
  have hn:=List.nodup_cons.1 hn
  simp only[bR]
  rw[iF hn.1]
  simp[co,List.getElem?_set_self hk]
 | k0::K,a::l,cs,i+1,k,hn,hl,h,hk=>by
  have hn:=List.nodup_cons.1 hn
  simp only[bR]
  rw[yB hn.2 (by simpa using hl) (by simpa using h) (by simpa using hk)]
  simp[co]
theorem mL {K0:List Nat}:∀{K:List Nat}{l:List Lt},dJ ob K0 K l→l.length=K.length
 | [],l,h=>by
  simp only[dJ]at h
  simp[h]
 | k::K,[],h=>by simp only[dJ]at h
 | k::K,a::l,h=>by
  simp only[dJ]at h
  simp[mL h.2]
theorem eU {K0:List Nat}:∀{K:List Nat}{l:List Lt}{i k:Nat},dJ ob K0 K l→K[i]? =some k→∃(a:Lt) (l':List AV),l[i]? =some a∧renL K0 a.l=some l'∧ob[k]? =some (some ⟨a.t,a.z,l'⟩)
 | [],l,i,k,_,h=>by simp at h
 | k0::K,[],i,k,h,_=>by simp only[dJ]at h
 | k0::K,a::l,0,k,h,hk=>by
  simp only[dJ]at h
  simp at hk
  subst hk
  obtain⟨⟨l',h1,h2⟩,_⟩:=h
  exact⟨a,l',rfl,h1,bS h2⟩
 | k0::K,a::l,i+1,k,h,hk=>by
  simp only[dJ]at h
  exact eU (i:=i) h.2 (by simpa using hk)
theorem qL {K0:List Nat}:∀{l:List Lt}{os:List (Option Ob)},cS K0 l os→os.length=l.length
 | [],l,h=>by
  simp only[cS]at h
  simp[h]
 | k::K,[],h=>by simp only[cS]at h
 | k::K,a::l,h=>by
  simp only[cS]at h
  simp[qL h.2]
theorem mM {K0:List Nat}:∀{l:List Lt}{os:List (Option Ob)}{i:Nat}{a:Lt},cS K0 l os→l[i]? =some a→∃l',renL K0 a.l=some l'∧os[i]? =some (some ⟨a.t,a.z,l'⟩)
 | [],_,_,_,_,h=>by simp at h
 | b::l,[],_,_,h,_=>by simp only[cS]at h
 | b::l,o::os,0,a,h,ha=>by
  simp only[cS]at h
  simp at ha
  subst ha
  obtain⟨⟨l',h1,h2⟩,_⟩:=h
  exact⟨l',h1,by rw[h2];rfl⟩
 | b::l,o::os,i+1,a,h,ha=>by
  simp only[cS]at h
  obtain⟨l',h1,h2⟩:=mM (i:=i) h.2 (by simpa using ha)
  exact⟨l',h1,by simpa using h2⟩
def vC (K:List Nat) (cl cs2:List Co):Prop:=∀i k,K[i]? =some k→k<cs2.length∧co cs2 k=co cl i
mutual
theorem Gl {K:List Nat}{N:Nat→Prop}{cl cs2:List Co}(hc:vC K cl cs2):∀(a a':AV) (u:Value),dD K a=some a'→AR W N cl a u→AR W N cs2 a' u
 | .t y,a',u,h,hr=>by
  simp only[dD,Option.some.injEq]at h
  subst h
  simpa only[AR]using hr
 | .sl k o n,a',u,h,hr=>by
  simp only[dD]at h
  split at h
  ·rename_i t ht
   simp only[Option.some.injEq]at h
   subst h
   simp only[AR]at hr⊢
   rw[(hc k t ht).2]
   exact⟨(hc k t ht).1,hr.2⟩
  cases h
 | .pt k o,a',u,h,hr=>by
  simp only[dD]at h
  split at h
  ·rename_i t ht
   simp only[Option.some.injEq]at h
   subst h
   simp only[AR]at hr⊢
   rw[(hc k t ht).2]
   exact hr
  cases h
 | .ef l o,a',u,h,hr=>by
  simp only[dD,Option.some.injEq]at h
  subst h
  simpa only[AR]using hr
 | .fn f a b,a',u,h,hr=>by
  simp only[dD]at h
  split at h
  ·rename_i a1 b1 h1 h2
   simp only[Option.some.injEq]at h
   subst h
   simp only[AR]at hr⊢
   obtain⟨us,vs,e,r1,r2⟩:=hr
   exact⟨us,vs,e,ARL_to hc a a1 us h1 r1,ARL_to hc b b1 vs h2 r2⟩
  cases h
theorem ARL_to {K:List Nat}{N:Nat→Prop}{cl cs2:List Co}(hc:vC K cl cs2):∀(l l':List AV) (us:List Value),renL K l=some l'→ARL W N cl l us→ARL W N cs2 l' us
 | [],l',us,h,hr=>by
  simp only[renL,Option.some.injEq]at h
  subst h
  simpa only[ARL]using hr
 | a::l,l',us,h,hr=>by
  simp only[renL]at h
  split at h
  ·rename_i a1 l1 h1 h2
   simp only[Option.some.injEq]at h
   subst h
   cases us with
   | nil=>simp only[ARL]at hr
   | cons u us=>
    simp only[ARL]at hr⊢
    exact⟨Gl hc a a1 u h1 hr.1,ARL_to hc l l1 us h2 hr.2⟩
  cases h
end
theorem Mc {N:Nat→Prop}{a:AV}{u:Value}(h:∀z,a≠.t z):CR W N cs a (.w u)↔AR W N cs a u:=by
 cases a with
 | t z=>exact absurd rfl (h z)
 | _=>simp only[CR]
theorem Md {K:List Nat}{a a':AV}(h:dD K a=some a') (hn:∀z,a≠.t z):∀z,a'≠.t z:=by
 intro z e
 subst e
 cases a with
 | t z=>exact hn z rfl
 | ef l o=>simp[dD]at h
 | _=>
  simp only[dD]at h
  split at h <;> simp at h
theorem Pe {K:List Nat}{N:Nat→Prop}{cl cs2:List Co}(hc:vC K cl cs2){a a':AV}{y:VT}(h:dD K a=some a') (hr:CR W N cl a y):CR W N cs2 a' y:=by
 by_cases ht:∃z,a=.t z
 ·obtain⟨z,rfl⟩:=ht
  simp only[dD,Option.some.injEq]at h
  subst h
  simpa only[CR]using hr
 have hn:∀z,a≠.t z:=fun z e=>ht ⟨z,e⟩
 cases y with
 | w u=>exact(Mc (Md h hn)).2 (Gl hc _ _ u h ((Mc hn).1 hr))
 | _=>
  cases a with
  | t z=>exact absurd rfl (hn z)
  | _=>simp only[CR]at hr
theorem Ce {K:List Nat}{N:Nat→Prop}{cl cs2:List Co}(hc:vC K cl cs2):∀{l l':List AV}{ys:List VT},renL K l=some l'→aN W N cl l ys→aN W N cs2 l' ys
 | [],l',ys,h,hr=>by
  simp only[renL,Option.some.injEq]at h
  subst h
  simpa only[aN]using hr
 | a::l,l',ys,h,hr=>by
  simp only[renL]at h
  split at h
  ·rename_i a1 l1 h1 h2
   simp only[Option.some.injEq]at h
   subst h
   cases ys with
   | nil=>simp only[aN]at hr
   | cons y ys=>
    simp only[aN]at hr⊢
    exact⟨Pe hc h1 hr.1,Ce hc h2 hr.2⟩
  cases h
theorem pQ {K:List Nat}{l l':List AV}(h:renL K l=some l'):l=[]↔l'=[]:=by
 cases l with
 | nil=>
  simp only[renL,Option.some.injEq]at h
  simp[←h]
 | cons a l=>
  simp only[renL]at h
  split at h
  ·simp only[Option.some.injEq]at h
   simp[←h]
  cases h
theorem oN (b:Nat):∀{K:List Nat}{l:List (Option Ob)}{lc:List Co}{ob:List (Option Ob)}{cs:List Co},K.Nodup→l.length=K.length→lc.length=K.length→ob.length=cs.length→(∀k∈K,k<ob.length)→
  (bH (aQ ob K l) (bR cs K lc)).count b=(bH (aQ ob K (aV K)) cs).count b+((aB l lc).flatMap Res.S).count b
 | [],l,lc,ob,cs,_,h1,h2,_,_=>by
  obtain rfl:=List.eq_nil_of_length_eq_zero h1
  obtain rfl:=List.eq_nil_of_length_eq_zero h2
  simp[aQ,bR,aV,aB]
 | k::K,[],lc,ob,cs,_,h1,h2,_,_=>by simp at h1
 | k::K,a::l,[],ob,cs,_,h1,h2,_,_=>by simp at h2
 | k::K,a::l,c::lc,ob,cs,hn,h1,h2,h3,h4=>by
  have hn':=List.nodup_cons.1 hn
  have hk:=h4 k (by simp)
  have ih1:=oN b (K:=K) (l:=l) (lc:=lc) (ob:=ob.set k a) (cs:=cs.set k c) hn'.2 (by simpa using h1) (by simpa using h2) (by simpa using h3) (fun j hj=>by simpa using h4 j (List.mem_cons_of_mem _ hj))
  have e1:aV (k::K)=none::aV K:=rfl
  simp only[aQ,bR,e1,aB,List.zipWith_cons_cons,List.flatMap_cons,List.count_append]
  unfold aB at ih1
  rw[ih1]
  -- the k-th of the others
  have e2:aQ (ob.set k none) K (aV K)=(aQ (ob.set k a) K (aV K)).set k none:=by
   apply List.ext_getElem?
   intro j
   by_cases hj:j∈K
   ·obtain⟨i,hi⟩:=List.mem_iff_getElem?.1 hj
    have hkj:k≠j:=fun e=>hn'.1 (e▸hj)
    rw[List.getElem?_set_ne hkj,fK hn'.2 (by simp[aV]) hi (by simpa using h4 j (List.mem_cons_of_mem _ hj)),fK hn'.2 (by simp[aV]) hi (by simpa using h4 j (List.mem_cons_of_mem _ hj))]
   rw[dG hj]
   by_cases hkj:k=j
   ·subst hkj
    rw[List.getElem?_set_self hk,List.getElem?_set_self (by rw[cT];simpa using hk)]
   rw[List.getElem?_set_ne hkj,List.getElem?_set_ne hkj,dG hj,List.getElem?_set_ne hkj]
  have e3:(aQ (ob.set k a) K (aV K))[k]? =some a:=by rw[dG hn'.1,List.getElem?_set_self hk]
  have hck:co (cs.set k c) k=c:=by simp[co,List.getElem?_set_self (show k<cs.length by omega)]
  have hl0:(aQ (ob.set k a) K (aV K)).length=(cs.set k c).length:=by rw[cT];simpa using h3
  have h5:=rQ (r':=aE none (co cs k)) (aL hl0 e3) b
  rw[hck]at h5
  have e4:(aB (aQ (ob.set k a) K (aV K)) (cs.set k c)).set k (aE none (co cs k))=aB (aQ (ob.set k none) K (aV K)) cs:=by
   rw[e2,←iD]
   congr 1
   rw[List.set_set,lI (by omega)]
  have h6:(aE none (co cs k)).S=[]:=by cases hb:(co cs k).b <;> simp[aE]
  rw[e4,h6,List.count_nil]at h5
  unfold bH aB
  unfold aB at h5
  omega
theorem fT {K:List Nat}(hn:K.Nodup) (hl:ob.length=cs.length) (hK:∀k∈K,k<ob.length){r:Res}(h:r∈aB (aQ ob K (aV K)) cs):r∈aB ob cs∨r.S=[]∧∀W,r.φ W:=by
 obtain⟨j,hj⟩:=List.mem_iff_getElem?.1 h
 by_cases hjK:j∈K
 ·obtain⟨i,hi⟩:=List.mem_iff_getElem?.1 hjK
  have h1:=fK (l:=aV K) hn (by simp[aV]) hi (hK j hjK)
  have h2:(aV K)[i]? =some none:=by simp[aV,hi]
  rw[h2]at h1
  rw[aL (by rw[cT];exact hl) h1]at hj
  injection hj with hj
  subst hj
  refine .inr ⟨?_,fun W=>?_⟩ <;> cases hb:(co cs j).b <;> simp[aE]
 left
 have h1:=dG (l:=aV K) (ob:=ob) hjK
 cases h2:ob[j]? with
 | none=>
  rw[h2]at h1
  have:¬j<(aQ ob K (aV K)).length:=fun h=>by simp[h]at h1
  have h3:=(List.getElem?_eq_some_iff.1 hj).1
  rw[cR (by rw[cT];exact hl)]at h3
  rw[cT]at this
  omega
 | some o=>
  rw[h2]at h1
  rw[aL (by rw[cT];exact hl) h1]at hj
  injection hj with hj
  subst hj
  exact List.mem_of_getElem? (aL hl h2)
theorem vD {K:List Nat}{N':Nat→Prop}(hR:RelC x g ob cs ts W) (hN:∀b,x.fr W ob cs b→N' b):∀{os:List Operand}{aa:List FV},nB x.n g K os aa→bM W N' (K.map (co cs)) aa (os.map (Act.eval ⟨ts,[]⟩))
 | [],aa,h=>by
  simp only[nB]at h
  simp[h,bM]
 | o::os,[],h=>by simp only[nB]at h
 | o::os,a::aa,h=>by
  simp only[nB]at h
  simp only[List.map_cons,bM]
  refine⟨?_,vD hR hN h.2⟩
  have:=xL hN h.1 (hR.lk o)
  cases a with
  | tup l=>simp[pJ]at h
  | _=>exact this
theorem lL {N:Nat→Prop}:∀{l l':List FV}{us us':List Value},bM W N cs l us→bM W N cs l' us'→bM W N cs (l++l') (us++us')
 | [],l',us,us',h,h'=>by
  simp only[bM]at h
  subst h
  simpa using h'
 | a::l,l',u::us,us',h,h'=>by
  simp only[bM]at h
  simp only[List.cons_append,bM]
  exact⟨h.1,lL h.2 h'⟩
 | _::_,_,[],_,h,_=>by simp only[bM]at h
theorem jX {N N':Nat→Prop}(hN:∀b,N b→N' b):∀{caps:List Tr}{us:List Value},FRL W N caps us→bM W N' cs (dP caps) us
 | [],us,h=>by
  simp only[FRL]at h
  simp[h,dP,bM]
 | c::caps,[],h=>by simp only[FRL]at h
 | c::caps,u::us,h=>by
  simp only[FRL]at h
  simp only[dP,List.map_cons,bM]
  refine⟨?_,jX hN h.2⟩
  have h1:=dZ (W':=W) (fun _ _=>rfl) hN _ _ h.1
  cases c with
  | a l=>
   simp only[FR]at h1
   obtain⟨us,e,h2⟩:=h1
   exact⟨us,e,yA h2⟩
  | _=>simpa only[Gk,aR,AR]using h1
theorem Aa {fresh:Bool}{f:FuncId}{args:List FV}{R:List Lt→FV→Prop}{lent:List Lt}{K:List Nat}{os:List Operand}{fst caps:List Tr}{fus cus:List Value}(hS:aI fresh x.P f lent (dP fst++args++dP caps) R) (hK:dJ ob K K lent) (hnd:K.Nodup) (ha:nB x.n g K os args) (hfst:FRL W (x.fr W ob cs) fst fus) (hcap:FRL W (x.fr W ob cs) caps cus) (hR:RelC x g ob cs ts W):
  Calls x.P f (fus++os.map (Act.eval ⟨ts,[]⟩)++cus).toArray W (fun e W'=>∃v lent' r ys cl N2,e=.returned v∧R lent' r∧lent'.length=K.length∧cl.length=K.length∧RO W' N2 cl r v ys∧VT.okL W' ys∧(VT.fpL ys).Nodup∧
   ∀(ok:List (Option Ob)),cS K lent' ok→∀(oz:List Ob) (csn:List Co),csn.length=oz.length→(∀b,((aB (oz.map some) csn).flatMap Res.S).count b≤(VT.fpL ys).count b)→(∀r∈aB (oz.map some) csn,r.φ W')→
    (∀b,N2 b→x.fr W' (aQ ob K ok++oz.map some) (bR cs K cl++csn) b)∧
    ((∀i o,oz[i]? =some o→aN W' (x.fr W' (aQ ob K ok++oz.map some) (bR cs K cl++csn)) (bR cs K cl++csn) o.l (co csn i).l∧((co csn i).b=none→o.l=[]∧o.z≠0))→
     RelC x g (aQ ob K ok++oz.map some) (bR cs K cl++csn) ts W'∧∀d,Aft K d ob cs ts W (aQ ob K ok++oz.map some) (bR cs K cl++csn) ts W')):=by
 have hlen:=hR.len
 have hll:=mL hK
 have hKl:∀k∈K,k<ob.length:=fun k hk=>by
  obtain⟨i,hi⟩:=List.mem_iff_getElem?.1 hk
  obtain⟨a,l',_,_,h2⟩:=eU hK hi
  exact(List.getElem?_eq_some_iff.1 h2).1
 have hlobs:(aG lent).length=K.length:=by rw[eT,hll]
 have hput0:aB (aQ ob K (aG lent)) cs=aB ob cs:=by
  have hl0:(aQ ob K (aG lent)).length=cs.length:=by rw[cT];exact hlen
  apply List.ext_getElem?
  intro j
  by_cases hjl:j<ob.length
  ·by_cases hj:j∈K
   ·obtain⟨i,hi⟩:=List.mem_iff_getElem?.1 hj
    obtain⟨a,l',h1,_,h2⟩:=eU hK hi
    have h3:=fK hnd hlobs hi hjl
    rw[cZ,h1]at h3
    rw[aL hl0 h3,aL hlen h2]
    exact congrArg some (iP _ _)
   have h3:=dG (l:=aG lent) (ob:=ob) hj
   rw[List.getElem?_eq_getElem hjl]at h3
   rw[aL hl0 h3,aL hlen (List.getElem?_eq_getElem hjl)]
  rw[List.getElem?_eq_none (by rw[cR hl0];omega),List.getElem?_eq_none (by rw[cR hlen];omega)]
 have hputc:bR cs K (K.map (co cs))=cs:=by
  have key:∀(K:List Nat),(∀k∈K,k<cs.length)→bR cs K (K.map (co cs))=cs:=by
   intro K
   induction K with
   | nil=>intro _;rfl
   | cons k K ih=>
    intro h
    simp only[List.map_cons,bR]
    rw[lI (h k (by simp))]
    exact ih fun j hj=>h j (List.mem_cons_of_mem _ hj)
  exact key K fun k hk=>by rw[←hlen];exact hKl k hk
 have hcnt0:=fun b=>oN b (l:=aG lent) (lc:=K.map (co cs)) (cs:=cs) hnd hlobs (by simp) hlen hKl
 unfold bH at hcnt0
 rw[hputc,hput0]at hcnt0
 have hfr0:∀b,x.fr W ob cs b→gE W (aB (aG lent) (K.map (co cs))) b:=fun b hb=>And.intro hb.1.1 fun hm=>hb.1.2 (by
  have h1:=List.count_pos_iff.2 hm
  have h2:=hcnt0 b
  exact List.count_pos_iff.1 (show 0<((aB ob cs).flatMap Res.S).count b by omega))
 have hgetL:∀i k,K[i]? =some k→∃(a:Lt) (l':List AV),lent[i]? =some a∧renL K a.l=some l'∧ob[k]? =some (some (⟨a.t,a.z,l'⟩:Ob)):=fun i k hi=>eU hK hi
 have hφ0:∀r∈aB (aG lent) (K.map (co cs)),r.φ W:=fun r hr=>by
  obtain⟨i,hi⟩:=List.mem_iff_getElem?.1 hr
  have hil:=(List.getElem?_eq_some_iff.1 hi).1
  have hil2:i<K.length:=by
   rw[cR (by simp[hlobs])]at hil
   simpa using hil
  obtain⟨a,l',h1,_,h2⟩:=hgetL i K[i] (List.getElem?_eq_getElem hil2)
  have e1:(aG lent)[i]? =some (some a.ob):=by rw[cZ,h1];rfl
  rw[aL (by simp[hlobs]) e1,fB (List.getElem?_eq_getElem hil2)]at hi
  injection hi with hi
  subst hi
  rw[show aE (some a.ob) (co cs K[i])=aE (some ⟨a.t,a.z,l'⟩) (co cs K[i]) from iP _ _]
  exact hR.res h2
 have h1:Loc x.M x.w W (aB (aG lent) (K.map (co cs))++aB (aQ ob K (aV K)) cs) []:=(hR.2.pickS []).cut (fun b=>by
  rw[List.flatMap_append,List.count_append]
  have:=hcnt0 b
  omega) (fun r hr=>by
  rcases List.mem_append.1 hr with hr | hr
  ·exact hφ0 r hr
  rcases fT hnd hlen hKl hr with hr | hr
  ·exact hR.2.res r hr
  exact hr.2 W)
 have h2:Loc ((aB (aG lent) (K.map (co cs))).flatMap Res.S) W W (aB (aG lent) (K.map (co cs))) [(Bv lent (K.map (co cs)) (dP fst++args++dP caps) (fus++os.map (Act.eval ⟨ts,[]⟩)++cus)).on (x.fr W ob cs)]:=by
  refine h1.focus.read _ ⟨⟨by simp[hlobs],fun k o hk=>?_⟩,lL (lL (jX (fun b hb=>⟨hfr0 b hb,hb⟩) hfst) (vD hR (fun b hb=>⟨hfr0 b hb,hb⟩) ha)) (jX (fun b hb=>⟨hfr0 b hb,hb⟩) hcap)⟩
  rw[cZ]at hk
  cases hq:lent[k]? with
  | none=>rw[hq]at hk;cases hk
  | some a=>
   rw[hq]at hk
   simp at hk
   subst hk
   have hkK:k<K.length:=by rw[←hll];exact(List.getElem?_eq_some_iff.1 hq).1
   obtain⟨a',l',q1,q0,q2⟩:=hgetL k K[k] (List.getElem?_eq_getElem hkK)
   rw[hq]at q1
   injection q1 with q1
   subst q1
   have q3:=hR.obs.2 _ _ q2
   rw[fB (List.getElem?_eq_getElem hkK)]
   exact⟨oL (fun b hb=>⟨hfr0 b hb,hb⟩) q0 q3.1,fun h=>⟨(pQ q0).2 (q3.2 h).1,(q3.2 h).2⟩⟩
 refine(hS _ W _ _ h2).mono fun e W' hE=>?_
 obtain⟨v,lent',cl,r,ys,rfl,hr,hl',hty,hcl,hsame,h3⟩:=hE
 have h4:=Loc.turn h1 h3
 have hsh:=Sh.off (h3.sh 0 rfl)
 have hcl':cl.length=K.length:=by simpa using hcl
 have hlK:lent'.length=K.length:=by rw[hl',hll]
 refine⟨v,lent',r,ys,cl,_,rfl,hr,hlK,hcl',hsh.2,h3.res (cP ys) (by simp),?_,fun ok hbk oz csn hlz hcz hφz=>?_⟩
 ·have:=h3.nd
  rw[List.flatMap_append,List.nodup_append]at this
  simpa[cP]using this.2.1
 have hlob':ok.length=K.length:=by rw[qL hbk,hlK]
 have hrk:aB ok cl=aB (aG lent') cl:=by
  apply List.ext_getElem?
  intro j
  by_cases hj:j<lent'.length
  ·obtain⟨l',q1,q2⟩:=mM hbk (List.getElem?_eq_getElem hj)
   rw[aL (by rw[hlob',hcl']) q2,aL (ob:=aG lent') (by rw[eT,hlK,hcl']) (o:=some (lent'[j]).ob) (by rw[cZ,List.getElem?_eq_getElem hj];rfl)]
   exact congrArg some (iP _ _)
  rw[List.getElem?_eq_none (by rw[cR (by rw[hlob',hcl'])];omega),List.getElem?_eq_none (by rw[cR (by rw[eT,hlK,hcl'])];omega)]
 have hlen2:(aQ ob K ok).length=(bR cs K cl).length:=by rw[cT,fW];exact hlen
 have hrs:aB (aQ ob K ok++oz.map some) (bR cs K cl++csn)=aB (aQ ob K ok) (bR cs K cl)++aB (oz.map some) csn:=by
  unfold aB
  rw[List.zipWith_append hlen2]
 have hcnt2:∀b,(bH (aQ ob K ok++oz.map some) (bR cs K cl++csn)).count b≤(((aB (aG lent') cl++[cP ys])++aB (aQ ob K (aV K)) cs).flatMap Res.S).count b:=fun b=>by
  have q1:=oN b (l:=ok) (lc:=cl) (cs:=cs) hnd hlob' hcl' hlen hKl
  rw[hrk]at q1
  have q2:=hcz b
  unfold bH at q1⊢
  rw[hrs,List.flatMap_append,List.count_append,List.flatMap_append,List.count_append,List.flatMap_append,List.count_append,List.flatMap_cons,List.flatMap_nil,List.append_nil]
  have q3:(cP ys).S=VT.fpL ys:=rfl
  rw[q3]
  omega
 have hin2:∀b,b∈bH (aQ ob K ok++oz.map some) (bR cs K cl++csn)→b∈((aB (aG lent') cl++[cP ys])++aB (aQ ob K (aV K)) cs).flatMap Res.S:=fun b hb=>List.count_pos_iff.1 (Nat.lt_of_lt_of_le (List.count_pos_iff.2 hb) (hcnt2 b))
 have hrest:∀b,b∈(aB (aQ ob K (aV K)) cs).flatMap Res.S→b∈bH ob cs:=fun b hb=>by
  obtain⟨r,hr,hb⟩:=List.mem_flatMap.1 hb
  rcases fT hnd hlen hKl hr with hr | hr
  ·exact List.mem_flatMap.2 ⟨r,hr,hb⟩
  rw[hr.1]at hb
  cases hb
 have hlentS:∀b,b∈(aB (aG lent) (K.map (co cs))).flatMap Res.S→b∈bH ob cs:=fun b hb=>by
  have q1:=List.count_pos_iff.2 hb
  have q2:=hcnt0 b
  exact List.count_pos_iff.1 (show 0<((aB ob cs).flatMap Res.S).count b by omega)
 have hfree:∀b,gE W' (aB (aG lent') cl++[cP ys]) b→(x.fr W ob cs b∨b∈(aB (aG lent) (K.map (co cs))).flatMap Res.S∨W.heap.size≤b)→x.fr W' (aQ ob K ok++oz.map some) (bR cs K cl++csn) b:=fun b hb hb'=>by
  refine⟨⟨hb.1,fun hm=>?_⟩,?_⟩
  ·have hm:=hin2 b hm
   rw[List.flatMap_append,List.mem_append]at hm
   rcases hm with hm | hm
   ·exact hb.2 hm
   have hm2:=hrest b hm
   rcases hb' with hb' | hb' | hb'
   ·exact hb'.1.2 hm2
   ·have q1:=hcnt0 b
    have q2:=List.nodup_iff_count.1 hR.2.nd b
    have q3:=List.count_pos_iff.2 hb'
    have q4:=List.count_pos_iff.2 hm
    unfold bH at q1
    omega
   have:=(hR.2.blk b hm2).2
   omega
  rcases hb' with hb' | hb' | hb'
  ·exact hb'.2
  ·exact .inr (hR.2.blk b (hlentS b hb')).1
  exact .inr (.inr (Nat.le_trans hR.2.chg.size hb'))
 have hsize:W.heap.size≤W'.heap.size:=h3.chg.size
 have hfr:∀b,x.fr W ob cs b→x.fr W' (aQ ob K ok++oz.map some) (bR cs K cl++csn) b:=fun b hb=>by
  refine hfree b ⟨Nat.lt_of_lt_of_le hb.1.1 hsize,fun hm=>?_⟩ (.inl hb)
  have q1:=h3.blk b hm
  rcases q1.1 with q1 | q1
  ·exact hb.1.2 (hlentS b q1)
  have:=hb.1.1
  omega
 have hkeep:∀b,x.fr W ob cs b→W'.heap[b]? =W.heap[b]? :=fun b hb=>h3.chg.block b hb.1.1 (fun hm=>hb.1.2 (hlentS b hm))
 refine⟨fun b hb=>hfree b hb.2.1 hb.2.2,fun hoz=>?_⟩
 have hcoK:∀i k,K[i]? =some k→co (bR cs K cl) k=co cl i:=fun i k hi=>yB hnd hcl' hi (by rw[←hlen];exact hKl k (List.mem_of_getElem? hi))
 have hsame2:Same cs (bR cs K cl):=⟨by rw[fW];exact Nat.le_refl _,fun k hk=>by
  by_cases hkK:k∈K
  ·obtain⟨i,hi⟩:=List.mem_iff_getElem?.1 hkK
   have:=hsame.2 i (by simpa using(List.getElem?_eq_some_iff.1 hi).1)
   rw[fB hi]at this
   rw[hcoK i k hi]
   exact this
  rw[iF hkK]
  exact⟨rfl,rfl⟩⟩
 have happ:∀{k},k<(bR cs K cl).length→co (bR cs K cl++csn) k=co (bR cs K cl) k:=fun hk=>by simp[co,List.getElem?_append_left hk]
 have hsame3:Same cs (bR cs K cl++csn):=hsame2.trans ⟨by simp,fun k hk=>by rw[happ hk];exact⟨rfl,rfl⟩⟩
 have hLf:Loc x.M x.w W' (aB (aQ ob K ok++oz.map some) (bR cs K cl++csn)) []:=h4.cut hcnt2 (fun r hr=>by
  rw[hrs]at hr
  rcases List.mem_append.1 hr with hr | hr
  ·obtain⟨j,hj⟩:=List.mem_iff_getElem?.1 hr
   have hjl:=(List.getElem?_eq_some_iff.1 hj).1
   rw[cR hlen2,fW,←hlen]at hjl
   by_cases hjK:j∈K
   ·obtain⟨i,hi⟩:=List.mem_iff_getElem?.1 hjK
    have q1:=fK hnd hlob' hi (hKl j hjK)
    have q2:i<ok.length:=by rw[hlob'];exact(List.getElem?_eq_some_iff.1 hi).1
    rw[List.getElem?_eq_getElem q2]at q1
    rw[aL hlen2 q1,hcoK i j hi]at hj
    injection hj with hj
    subst hj
    refine h3.res _ (List.mem_append_left _ (by rw[←hrk];exact List.mem_of_getElem? (aL (by rw[hlob',hcl']) (List.getElem?_eq_getElem q2))))
   have q1:(aQ ob K ok)[j]? =ob[j]? :=dG hjK
   rw[List.getElem?_eq_getElem hjl]at q1
   rw[aL hlen2 q1,iF hjK]at hj
   injection hj with hj
   subst hj
   have q2:(aQ ob K (aV K))[j]? =ob[j]? :=dG hjK
   rw[List.getElem?_eq_getElem hjl]at q2
   exact h4.res _ (List.mem_append_right _ (List.mem_of_getElem? (aL (by rw[cT];exact hlen) q2)))
  exact hφz r hr)
 refine⟨.of hR.1 hLf ⟨by rw[List.length_append,List.length_append,hlen2,List.length_map,hlz],fun k o hk=>?_⟩ (fun i hi=>?_) (hR.3.trans hsame3),fun d=>⟨hsame3,fun k hk hkc=>?_,hsize,fun b hlt hb=>?_,fun b hb=>?_,fun _ _=>rfl⟩⟩
 ·rcases Nat.lt_or_ge k (aQ ob K ok).length with hlt | hge
  ·rw[List.getElem?_append_left hlt]at hk
   rw[happ (by rw[←hlen2];exact hlt)]
   rw[cT]at hlt
   by_cases hkK:k∈K
   ·obtain⟨i,hi⟩:=List.mem_iff_getElem?.1 hkK
    rw[fK hnd hlob' hi hlt]at hk
    have hil:i<lent'.length:=by rw[hlK];exact(List.getElem?_eq_some_iff.1 hi).1
    obtain⟨l',q0,q2⟩:=mM hbk (List.getElem?_eq_getElem hil)
    rw[q2]at hk
    injection hk with hk
    injection hk with hk
    subst hk
    have q1:=hsh.1.2 i (lent'[i]).ob (by rw[cZ,List.getElem?_eq_getElem hil];rfl)
    rw[hcoK i k hi]
    have q3:vC K cl (bR cs K cl++csn):=fun i k hi=>by
     have hkl:=hKl k (List.mem_of_getElem? hi)
     have hkp:k<(bR cs K cl).length:=by rw[fW,←hlen];exact hkl
     exact⟨by rw[List.length_append];omega,by rw[happ hkp,hcoK i k hi]⟩
    exact⟨bP (fun _ _=>rfl) (fun b hb=>hfree b hb.2.1 hb.2.2) .refl _ _ (Ce q3 q0 q1.1),fun h=>⟨(pQ q0).1 (q1.2 h).1,(q1.2 h).2⟩⟩
   rw[dG hkK]at hk
   rw[iF hkK]
   have q1:=hR.obs.2 k o hk
   exact⟨bP hkeep hfr hsame3 _ _ q1.1,q1.2⟩
  rw[List.getElem?_append_right hge]at hk
  have ho:oz[k-(aQ ob K ok).length]? =some o:=by
   rw[List.getElem?_map]at hk
   cases hq:oz[k-(aQ ob K ok).length]? with
   | none=>rw[hq]at hk;cases hk
   | some o'=>
    rw[hq]at hk
    simp at hk
    rw[hk]
  have q1:=hoz _ o ho
  have e:co (bR cs K cl++csn) k=co csn (k-(aQ ob K ok).length):=by
   unfold co
   rw[List.getElem?_append_right (by rw[←hlen2];exact hge),hlen2]
  rw[e]
  exact q1
 ·obtain⟨u,q1,q2⟩:=hR.fv hi
  exact⟨u,q1,cI hkeep hfr hsame3 _ _ q2⟩
 ·rw[happ (by rw[fW];exact hkc),iF hk]
 ·refine h3.chg.block b hlt fun hm=>?_
  obtain⟨r,hr,hbr⟩:=List.mem_flatMap.1 hm
  obtain⟨i,hi⟩:=List.mem_iff_getElem?.1 hr
  have hil:=(List.getElem?_eq_some_iff.1 hi).1
  have hil2:i<K.length:=by
   rw[cR (by simp[hlobs])]at hil
   simpa using hil
  obtain⟨a,l',q1,_,q2⟩:=hgetL i K[i] (List.getElem?_eq_getElem hil2)
  have e1:(aG lent)[i]? =some (some a.ob):=by rw[cZ,q1];rfl
  rw[aL (by simp[hlobs]) e1,fB (List.getElem?_eq_getElem hil2)]at hi
  injection hi with hi
  subst hi
  rw[show aE (some a.ob) (co cs K[i])=aE (some ⟨a.t,a.z,l'⟩) (co cs K[i]) from iP _ _]at hbr
  exact hb K[i] (List.getElem_mem hil2) _ q2 hbr
 have q1:=hin2 b hb
 rw[List.flatMap_append,List.mem_append]at q1
 rcases q1 with q1 | q1
 ·rcases(h3.blk b q1).1 with q2 | q2
  ·exact .inl (hlentS b q2)
  exact .inr q2
 exact .inl (hrest b q1)
end
theorem vE {k:Nat}{a:AV}(h:(rU k a).isSome=true):∃y,a=.t y:=by
 cases a with
 | t y=>exact⟨y,rfl⟩
 | _=>simp[rU]at h
theorem vF {W:World}{N:Nat→Prop}{cs:List Co}:∀{l:List AV}{k:Nat}{r:List AV×List Ob}{ys:List VT},iV k l=some r→aN W N cs l ys→aN W N [] l ys
 | [],_,_,ys,_,h=>by simpa[aN]using h
 | a::l,k,r,[],_,h=>by simp only[aN]at h
 | a::l,k,r,y::ys,hb,h=>by
  simp only[aN]at h⊢
  unfold iV at hb
  split at hb
  ·rename_i a' ha
   split at hb
   ·rename_i l' os hl
    obtain⟨z,rfl⟩:=vE (k:=k) (by rw[ha];rfl)
    exact⟨h.1,vF hl h.2⟩
   cases hb
  ·rename_i a' o r' ha
   split at hb
   ·rename_i l' os hl
    obtain⟨z,rfl⟩:=vE (k:=k) (by rw[ha];rfl)
    exact⟨h.1,vF hl h.2⟩
   cases hb
  cases hb
theorem vG {W:World}{N:Nat→Prop}{cs:List Co}{k:Nat}{r:FV}{b:FV×List Ob}{u:Value}{ys:List VT}(hb:nX k r=some b) (h:mZ W N cs r u ys):mZ W N [] r u ys:=by
 cases r with
 | any=>exact h.elim
 | tup l=>exact h.elim
 | one a=>
  unfold nX at hb
  dsimp only at hb
  split at hb
  ·rename_i a' os ha
   obtain⟨z,rfl⟩:=vE (k:=k) (by rw[ha];rfl)
   exact h
  cases hb
 | agg l=>
  unfold nX at hb
  dsimp only at hb
  split at hb
  ·rename_i l' os hl
   exact⟨h.1,vF hl h.2⟩
  cases hb
theorem Cf {W:World}{N:Nat→Prop}{cs:List Co}:∀{l:List FV}{k:Nat}{b:List FV×List Ob}{us:List Value}{ys:List VT},pP k l=some b→nQ W N cs l us ys→nQ W N [] l us ys
 | [],_,_,us,ys,_,h=>h
 | a::l,k,b,us,ys,hb,⟨v,vs,y1,y2,h1,h2,h3,h4⟩=>by
  unfold pP at hb
  split at hb
  ·rename_i a' os ha
   split at hb
   ·rename_i l' os' hl
    exact⟨v,vs,y1,y2,h1,h2,vG ha h3,Cf hl h4⟩
   cases hb
  cases hb
theorem Gm {W:World}{N:Nat→Prop}{cs:List Co}{k:Nat}{r:FV}{b:FV×List Ob}{u:Value}{ys:List VT}(hb:iR k r=some b) (h:RO W N cs r u ys):RO W N [] r u ys:=by
 cases r with
 | tup l=>
  obtain⟨vs,e,h⟩:=h
  unfold iR at hb
  dsimp only at hb
  split at hb
  ·rename_i l' os hl
   exact⟨vs,e,Cf hl h⟩
  cases hb
 | any=>exact h.elim
 | one a=>exact vG (r:=.one a) hb h
 | agg l=>exact vG (r:=.agg l) hb h
section
variable {x:Cx}{g g':Nat→FV}{ob ob':List (Option Ob)}{cs cs':List Co}{ts ts':Array Value}{W W':World}{T:List (Nat×TI)}{Q:Post}{ops:Array Oper}{rest:List Oper}{d:Nat}{op:Op}{ty:TypeId}{pos:String}{af:Array Edge}{gd:Option (Nat×Bool)}
theorem sZ {cf:Operand}{f:FuncId}{us0 us:List Value}{aa:Array Operand}{ats:Array TypeId}(hf:CallOk x.P f) (e0:Act.eval ⟨ts,[]⟩ cf=.func (.func f) us0.toArray us.toArray):
  (execOp (Act.eval ⟨ts,[]⟩) ⟨some d,.call ⟨.value cf,aa,ats⟩,ty,pos,af,gd⟩).run x.P W=.ok (.enter f (us0++aa.toList.map (Act.eval ⟨ts,[]⟩)++us).toArray) W:=by
 obtain⟨fn,c,h1,h2,h3⟩:=hf
 have e1:aa.map (Act.eval ⟨ts,[]⟩)=(aa.toList.map (Act.eval ⟨ts,[]⟩)).toArray:=by apply Array.ext';simp only[Array.toList_map]
 simp[execOp,resolve,e0,Deferred.ofValue,invoke,e1,callFunc,h1,h3]
 intro hn
 rw[hn]at h2
 simp at h2
theorem Ff {fresh:Bool}{f:FuncId}{args:List FV}{R:List Lt→FV→Prop}{lent:List Lt}{K:List Nat}{aa:Array Operand}{ats:Array TypeId}{cf:Operand}{fst caps:List Tr}{key:Nat}(hS:aI fresh x.P f lent (dP fst++args++dP caps) R) (hf:CallOk x.P f) (hc:Mb x g cf f fst caps) (hK:dJ ob K K lent) (hnd:K.Nodup) (ha:nB x.n g K aa.toList args) (hk:cW ob key=true) (hb:∀l r,R l r→l.length=K.length→(iR key r).isSome=true∧∃ok,cS K l ok):
  OS x ⟨some d,.call ⟨.value cf,aa,ats⟩,ty,pos,af,gd⟩ g ob K (fun g' ob'=>∃l r v os ok,R l r∧l.length=K.length∧iR key r=some (v,os)∧cS K l ok∧g'=aH g d v∧ob'=aQ ob K ok++os.map some):=by
 intro cs ts W hR K' Q kk
 obtain⟨us0,us,e0,hfst,hcap⟩:=hc ob cs ts W hR
 unfold Oper.wp
 rw[sZ hf e0]
 refine(Aa hS hK hnd ha hfst hcap hR).mono fun e W' hE=>?_
 obtain⟨v,lent',r,ys,cl,N2,rfl,hr,hl1,hl2,hro,hok,hndy,fin⟩:=hE
 obtain⟨hb1,ok,hbk⟩:=hb _ r hr hl1
 obtain⟨⟨v',os⟩,hbn⟩:=Option.isSome_iff_exists.1 hb1
 obtain⟨csn,e1,e2,e3,e4⟩:=uZ (Gm hbn hro) hok hbn
 obtain⟨hN,hfin⟩:=fin ok hbk os csn e1 (fun b=>by rw[e2];exact Nat.le_refl _) e3
 have hk:=Nat.eq_of_beq_eq_true hk
 have hpl:(bR cs K cl).length=key:=by rw[fW,←hR.len,hk]
 obtain⟨g1,g2⟩:=e4 _ (bR cs K cl++csn) hN (by simp[hpl,e1]) (fun i _=>by
  unfold co
  rw[List.getElem?_append_right (by omega),hpl,show key+i-key=i by omega])
 obtain⟨m1,m2⟩:=hfin g2
 exact kk _ _ _ _ _ ⟨lent',r,v',os,ok,hr,hl1,hbn,hbk,rfl,rfl⟩ (m1.put d g1) ((m2 (some d)).then_put v)
theorem Pf {late:Nat→Bool}{K fr:List Nat}{fuel:Nat}{listed:Array Bool}{o:Oper}{Wr:List Nat}{R:(Nat→FV)→List (Option Ob)→Prop}(i:Nat) (hi:ops[i]? =some o) (hd:o.dst=some d) (hw:aJ ops x.n g o.guard=some true) (h:OS x o g ob Wr R) (hW:∀k∈K,k∉Wr)
  (hg:∀g' ob',R g' ob'→(∃v,g'=aH g d v)∧∀k∈K,ob'[k]? =ob[k]?) (k:∀g' ob',R g' ob'→WD x ops Q late K (d::fr) true fuel (listed.setIfInBounds i true) g' ob'):WO x ops Q late K fr true fuel listed i g ob:=by
 refine Lk i hi hw h true (fun _=>⟨rfl,hW⟩) (fun _=>rfl) (fun _ g' ob' hR=>?_) fun g' ob' hR=>by rw[hd];exact k g' ob' hR
 obtain⟨⟨v,h1⟩,h2⟩:=hg g' ob' hR
 exact⟨by rw[hd,h1];exact qK,h2⟩
theorem Pg {late:Nat→Bool}{K fr:List Nat}{fuel:Nat}{listed:Array Bool}{o:Oper}{Wr:List Nat}{R:(Nat→FV)→List (Option Ob)→Prop}(i:Nat) (hr:Region.ready .any ops listed=[i]) (hi:ops[i]? =some o) (hd:o.dst=some d) (hw:aJ ops x.n g o.guard=some true) (h:OS x o g ob Wr R) (hW:∀k∈K,k∉Wr)
  (hg:∀g' ob',R g' ob'→(∃v,g'=aH g d v)∧∀k∈K,ob'[k]? =ob[k]?) (k:∀g' ob',R g' ob'→WD x ops Q late K (d::fr) true fuel (listed.setIfInBounds i true) g' ob'):WD x ops Q late K fr true (fuel+1) listed g ob:=
 WO.one hr (Pf i hi hd hw h hW hg k)
theorem tA {K0:List Nat}:∀{l:List Lt}{a b:List (Option Ob)},cS K0 l a→cS K0 l b→a=b
 | [],a,b,h,h'=>by
  simp only[cS]at h h'
  rw[h,h']
 | x::l,[],b,h,_=>by simp only[cS]at h
 | x::l,a::al,[],_,h=>by simp only[cS]at h
 | x::l,a::al,b::bl,h,h'=>by
  simp only[cS]at h h'
  obtain⟨⟨l1,e1,e2⟩,h2⟩:=h
  obtain⟨⟨l2,f1,f2⟩,h3⟩:=h'
  rw[e1]at f1
  injection f1 with f1
  subst f1
  rw[e2,f2,tA h2 h3]
def Rt (l0:List Lt) (r0:FV):List Lt→FV→Prop:=fun l r=>l=l0∧r=r0
theorem Me {t e z by_:Nat}{zz:Value}{ti:Bool}{ts0:Nat}{z0:List Value}{a:Operand}{t2:TypeId}{m:Nat}(hT:aU x.P T) (ht:aM T t=some ⟨ti,ts0,z0,.sl e z by_ zz⟩) (ha:fP (lk x.n g a)=some m):
  OS x ⟨some d,.binOp .eql t a (.const (.slice none 0 0)) t2,ty,pos,af,gd⟩ g ob [] (fun g' ob'=>∃q:Bool,(q=true→m=0)∧g'=aH g d (.one (tv (.bool q)))∧ob'=ob):=by
 obtain⟨hts,_⟩:=(bI hT ht).2.2.2
 obtain⟨i,e1,_,_⟩:=hts
 intro cs ts W hR K Q kk
 obtain⟨A,c,hu⟩:=xF (hR.lk a) ha
 have h0:∀A c,Act.eval ⟨ts,[]⟩ a=.slice A m c→(A=none→m=0):=by
  intro A c hu hA
  subst hA
  have hv:=hR.lk a
  rw[hu]at hv
  cases hlk:lk x.n g a with
  | any=>rw[hlk]at ha;simp[fP]at ha
  | agg l=>rw[hlk]at ha;simp[fP]at ha
  | tup l=>rw[hlk]at ha;simp[fP]at ha
  | one av=>
   rw[hlk]at hv ha
   cases av with
   | pt=>simp[fP]at ha
   | ef=>simp[fP]at ha
   | fn=>simp[fP]at ha
   | sl k o n=>
    simp only[aK,aR,AR]at hv
    cases hb:(co cs k).b with
    | none=>
     rw[hb]at hv
     obtain⟨_,h1,_,h3⟩:=hv
     injection h3
    | some b=>
     rw[hb]at hv
     obtain⟨_,_,_,h3,_⟩:=hv
     injection h3 with h3
     cases h3
   | t y=>
    cases y with
    | p=>simp[fP]at ha
    | f=>simp[fP]at ha
    | a=>simp[fP]at ha
    | s o t z n l=>
     simp only[aK,aR,AR,FR]at hv
     obtain⟨A,c,h1,_,_,_,h5⟩:=hv
     injection h1 with h1 h2 _
     subst h1
     rcases h5 with h5 | ⟨ad,h5,_⟩
     ·omega
     cases h5
    | v w=>
     simp only[aK,aR,AR,FR]at hv
     subst hv
     unfold fP at ha
     split at ha
     ·rename_i h9
      cases h9
     ·rename_i h9
      cases h9
     ·rename_i h9
      injection ha with ha
      exact ha.symm
     cases ha
 have hrun:(execOp (Act.eval ⟨ts,[]⟩) ⟨some d,.binOp .eql t a (.const (.slice none 0 0)) t2,ty,pos,af,gd⟩).run x.P W=.ok (.value (.bool A.isNone)) W:=by
  have h3:∀A:Option Addr,(Op.equal t (.slice A m c) (.slice none 0 0)).run x.P W=.ok A.isNone W:=fun A=>by
   show(Op.equalIn (9999+1) t (.slice A m c) (.slice none 0 0)).run x.P W=_
   rw[Op.equalIn]
   simp only[Sem.run_bind,run_underlying e1,Result.andThen_ok]
   cases A <;> rfl
  have h4:Act.eval ⟨ts,[]⟩ (.const (.slice none 0 0))=.slice none 0 0:=rfl
  simp only[execOp,hu,h4,eqGuard_at_slice,binOp,Sem.run_bind,Sem.run_pure,Result.andThen_ok,h3]
 refine cD hrun (kk _ _ _ _ _ ⟨A.isNone,fun h=>h0 A c hu (by simpa using h),rfl,rfl⟩ (hR.put d (v:=.one (tv (.bool A.isNone))) (by simp[aK,aR,tv,AR,FR])) (.put d _))
theorem Fg {z:Array Value}{n:Nat}(h0:0<z.size):(Builtin.zeroCells z n).toList=eJ z.toList n:=by
 unfold Builtin.zeroCells
 apply List.ext_getElem?
 intro j
 simp only[Array.toList_map,Array.toList_range,List.getElem?_map]
 by_cases hj:j<n*z.size
 ·rw[List.getElem?_range hj,pO (by simpa using hj)]
  simp only[Option.map_some]
  have hm:j%z.size<z.size:=Nat.mod_lt _ h0
  rw[getElem!_pos z _ hm]
  simp[hm]
 rw[List.getElem?_eq_none (by simp;omega),List.getElem?_eq_none (by simp[mI];omega)]
 rfl
theorem Cg:∀{us:List Value},cK (us.map tv)=true→∀n,cK ((eJ us n).map tv)=true
 | us,h,0=>rfl
 | us,h,n+1=>by
  have ih:=Cg h n
  have app:∀(a b:List AV),cK a=true→cK b=true→cK (a++b)=true:=by
   intro a b
   induction a with
   | nil=>intro _ h;exact h
   | cons c a ih=>
    intro h1 h2
    simp only[cK,Bool.and_eq_true]at h1
    simp only[List.cons_append,cK,Bool.and_eq_true]
    exact⟨h1.1,ih h1.2 h2⟩
  unfold eJ
  rw[List.map_append]
  exact app _ _ h ih
theorem Mf {t e z by_ k o n:Nat}{zz:Value}{ti:Bool}{ts0:Nat}{z0:List Value}{bo:Ob}{a:Operand}(hT:aU x.P T) (ht:aM T t=some ⟨ti,ts0,z0,.sl e z by_ zz⟩) (ha:lk x.n g a=.one (.sl k o n)) (ho:bE ob k=some bo) (hle:o+n*z≤bo.l.length) (hlo:cK (zz.cells.toList.map tv)=true):
  OS x ⟨none,.call ⟨.builtin .clear, #[a], #[t]⟩,ty,pos,af,gd⟩ g ob [k] (fun g' ob2=>g'=g∧ob2=ob.set k (some ⟨bo.t,bo.z,cJ bo.l o ((eJ zz.cells.toList n).map tv)⟩)):=by
 obtain⟨_,ht',i,hi,hz,hsize,hby,hzs,hsz⟩:=(bI hT ht).2.2.2
 have hk:=bS ho
 intro cs ts W hR K Q kk
 have hu:=hR.lk a
 rw[ha]at hu
 simp only[aK,aR,AR]at hu
 have idle:n=0→(execOp (Act.eval ⟨ts,[]⟩) ⟨none,.call ⟨.builtin .clear, #[a], #[t]⟩,ty,pos,af,gd⟩).run x.P W=.ok (.value (.tuple #[])) W→Oper.wp x.P ⟨none,.call ⟨.builtin .clear, #[a], #[t]⟩,ty,pos,af,gd⟩ ⟨ts,[]⟩ W K Q:=fun h0 hrun=>by
  subst h0
  unfold Oper.wp
  rw[hrun]
  have e1:cJ bo.l o ((eJ zz.cells.toList 0).map tv)=bo.l:=by simp[cJ,eJ]
  have e2:ob.set k (some ⟨bo.t,bo.z,cJ bo.l o ((eJ zz.cells.toList 0).map tv)⟩)=ob:=by
   rw[e1]
   apply List.ext_getElem?
   intro j
   by_cases hj:k=j
   ·subst hj
    rw[List.getElem?_set_self (List.getElem?_eq_some_iff.1 hk).1,hk]
   rw[List.getElem?_set_ne hj]
  refine kk g _ cs ts W ⟨rfl,rfl⟩ (by rw[e2];exact hR) (by rw[e2];exact⟨.refl,fun _ _ _=>rfl,Nat.le_refl _,fun _ _ _=>rfl,fun _ h=>.inl h,fun _ _=>rfl⟩)
 cases hb:(co cs k).b with
 | none=>
  rw[hb]at hu
  obtain⟨_,h0,_,e⟩:=hu
  exact idle h0 (by simp[execOp,resolve,invoke,builtin,e,Builtin.clear_,run_underlying ht'])
 | some b=>
  rw[hb]at hu
  obtain⟨_,o',c,e,h1,h2,h3,_⟩:=hu
  rcases Nat.eq_zero_or_pos n with h0 | h0
  ·subst h0
   exact idle rfl (by simp[execOp,resolve,invoke,builtin,e,Builtin.clear_,run_underlying ht'])
  obtain rfl:=h3 (.inl h0)
  have hzl:((eJ zz.cells.toList n).map tv).length=n*z:=by simp[mI,hzs]
  obtain⟨W',c',hst,m1,m2⟩:=hR.over (us:=(eJ zz.cells.toList n).map tv) (vs:=eJ zz.cells.toList n) (o:=o') hk hb (gG _) (nN _) (Cg hlo n) (by rw[hzl];exact hle)
  have hd:∃m,n=m+1:=⟨n-1,by omega⟩
  obtain⟨m,hm⟩:=hd
  have hrun:(execOp (Act.eval ⟨ts,[]⟩) ⟨none,.call ⟨.builtin .clear, #[a], #[t]⟩,ty,pos,af,gd⟩).run x.P W=.ok (.value (.tuple #[])) W':=by
   rw[←Fg (by omega),hm]at hst
   rw[hm]at e
   simp[execOp,resolve,invoke,builtin,e,Builtin.clear_,run_underlying ht',zeroValue,typeInfo,hi,hz,hst]
  unfold Oper.wp
  rw[hrun]
  exact kk _ _ _ _ _ ⟨rfl,rfl⟩ m1 (m2 none)
end
section
variable {x:Cx}{g:Nat→FV}{ob ob':List (Option Ob)}{Q:Post}{ops:Array Oper}{rest:List Oper}{d:Nat}{op:Op}{ty:TypeId}{pos:String}{af:Array Edge}{gd:Option (Nat×Bool)}{C:Prop}{v:FV}
theorem cl {fresh:Bool}{f:FuncId}{lent lent':List Lt}{args:List FV}{r:FV}{os:List Ob}{aa:Array Operand}{ats:Array TypeId}(key:Nat) (K:List Nat) (hS:aI fresh x.P f lent args (Rt lent' r)) (hf:CallOk x.P f) (hK:dJ ob K K lent) (ha:nB x.n g K aa.toList args){ok:List (Option Ob)}(hbk:cS K lent' ok) (k:WL x ops rest (aH g d v) (aQ ob K ok++os.map some) Q) (hw:aJ ops x.n g gd=some true:=by rfl) (hk:cW ob key=true:=by rfl) (hnd:K.Nodup:=by decide) (hb:iR key r=some (v,os):=by rfl):
  WL x ops (⟨some d,.call ⟨.value (.func f),aa,ats⟩,ty,pos,af,gd⟩::rest) g ob Q:=by
 have e:dP []++args++dP []=args:=by simp[dP]
 refine eI (Ff (by rw[e];exact hS) hf (zZ f) hK hnd ha hk (by rintro _ _ ⟨rfl,rfl⟩ _;exact⟨by rw[hb];rfl,ok,hbk⟩)) hw ?_
 rintro _ _ ⟨l,r',v',os',ok',⟨rfl,rfl⟩,_,h,h9,rfl,rfl⟩
 obtain rfl:=tA hbk h9
 rw[hb]at h
 injection h with h
 injection h with h1 h2
 subst h1 h2
 exact k
theorem nq {t e z by_ m:Nat}{zz:Value}{ti:Bool}{ts0:Nat}{z0:List Value}{a:Operand}{t2:TypeId}(k1:m=0→WL x ops rest (aH g d (.one (tv (.bool true)))) ob Q) (k2:WL x ops rest (aH g d (.one (tv (.bool false)))) ob Q) (hT:aU x.P ttab:=by exact aD) (ht:aM ttab t=some ⟨ti,ts0,z0,.sl e z by_ zz⟩:=by rfl) (ha:fP (lk x.n g a)=some m:=by rfl) (hw:aJ ops x.n g gd=some true:=by rfl):
  WL x ops (⟨some d,.binOp .eql t a (.const (.slice none 0 0)) t2,ty,pos,af,gd⟩::rest) g ob Q:=
 eI (Me hT ht ha) hw (by
  rintro _ _ ⟨q,h,rfl,rfl⟩
  cases q with
  | true=>exact k1 (h rfl)
  | false=>exact k2)
theorem clear {t e z by_ ky o n t' z':Nat}{zz:Value}{ti:Bool}{ts0:Nat}{z0:List Value}{l l':List AV}{a:Operand}(hle:o+n*z≤l.length) (hl:cJ l o ((eJ zz.cells.toList n).map tv)=l') (k:WL x ops rest g (ob.set ky (some ⟨t',z',l'⟩)) Q) (hT:aU x.P ttab:=by exact aD) (ht:aM ttab t=some ⟨ti,ts0,z0,.sl e z by_ zz⟩:=by rfl) (ha:lk x.n g a=.one (.sl ky o n):=by rfl) (ho:bE ob ky=some ⟨t',z',l⟩:=by rfl) (hlo:cK (zz.cells.toList.map tv)=true:=by rfl) (hw:aJ ops x.n g gd=some true:=by rfl):
  WL x ops (⟨none,.call ⟨.builtin .clear, #[a], #[t]⟩,ty,pos,af,gd⟩::rest) g ob Q:=
 eI (Mf hT ht ha ho hle hlo) hw (by rintro _ _ ⟨rfl,rfl⟩;subst hl;exact k)
variable {late:Nat→Bool}{K fr:List Nat}{on:Bool}{fuel:Nat}{listed:Array Bool}
theorem nZ {t:Nat}{ti:TI}{a:Operand}(i:Nat) (k:WD x ops Q late K (d::fr) true fuel (listed.setIfInBounds i true) (aH g d v) ob) (hT:aU x.P ttab:=by exact aD) (hi:ops[i]? =some ⟨some d,.load t a,ty,pos,af,gd⟩:=by rfl) (hw:aJ ops x.n g gd=some true:=by rfl) (hti:aM ttab t=some ti:=by rfl) (h:lE ob ti (lk x.n g a)=some (C,v):=by rfl):WO x ops Q late K fr true fuel listed i g ob:=
 zS (v:=v) i hi rfl hw (zH hT hti h) (by rintro _ _ ⟨rfl,rfl⟩;exact⟨rfl,fun _ _=>rfl⟩) (by rintro _ _ ⟨rfl,rfl⟩;exact k)
theorem Mg {m:Nat}(h0:x.c0.length=m) (τ:List Nat) (live:List (Nat×FV)) (os:List Ob) (hn:τ.Nodup) (ht:τ.take m=List.range m) (h1:nO τ g live) (h2:eH τ ob τ os):Sub x g ob (dU live) (os.map some):=
 su τ (fun k hk=>by
  rw[h0]at hk
  have h3:=congrArg (·[k]?) ht
  simpa[List.getElem?_take,hk]using h3) live os hn h1 h2
theorem Sf {i k:Nat}{a0:AV}{y:Tr}{o:Ob}{fv fv':FV}(hi:Nat.blt i x.n=true) (hg:g i=fv) (ho:bE ob k=some o) (hf:FzF a0 y fv fv') (key:zN x g ob k o a0 y) (hfr:fr.any (Nat.beq i)=true) (hK:K.contains k=false) (kk:WD x ops Q late K fr on fuel listed (aH g i fv') (ob.set k none)):WD x ops Q late K fr on fuel listed g ob:=fun Kp W1 cs ts W hR h1 h2 h3=>by
 obtain⟨m1,m2⟩:=uM hi hg ho hf hR (key _ _ _ hR)
 have hne:∀k'∈K,k≠k':=fun k' hk' e=>by
  subst e
  have:K.contains k=true:=by simpa using hk'
  rw[hK]at this
  cases this
 refine kk Kp W1 cs ts W m1 h1 h2 fun hon=>?_
 have hk:=h3 hon
 refine⟨hk.same,fun b hb=>?_,fun k' hk' o' ho'=>?_,fun j hj=>?_⟩
 ·rcases hk.free b hb with h4 | ⟨k2,hk2,o2,ho2,hb2⟩
  ·refine .inl fun hm=>h4 ?_
   have e:=rQ (r':=aE none (co cs k)) (aL hR.len (bS ho)) b
   have e1:(aB ob cs).set k (aE none (co cs k))=aB (ob.set k none) cs:=by
    have h5:=iD (ob:=ob) (cs:=cs) (k:=k) (o:=none) (c:=co cs k)
    rw[lI (by have:=(List.getElem?_eq_some_iff.1 (bS ho)).1;have:=hR.len;omega)]at h5
    exact h5.symm
   have e2:(aE none (co cs k)).S=[]:=by cases hb:(co cs k).b <;> simp[aE]
   rw[e1,e2,List.count_nil]at e
   have h6:=List.count_pos_iff.2 hm
   unfold bH at h6⊢
   exact List.count_pos_iff.1 (by omega)
  exact .inr ⟨k2,hk2,o2,by rw[List.getElem?_set_ne (hne k2 hk2)];exact ho2,hb2⟩
 ·rw[List.getElem?_set_ne (hne k' hk')]at ho'
  obtain⟨q1,q2⟩:=hk.ks k' hk' o' ho'
  exact⟨q1,bP (fun _ _=>rfl) (fun b hb=>⟨m2 b hb.1,hb.2⟩) .refl _ _ q2⟩
 obtain⟨u,q1,q2⟩:=hk.fv j hj
 refine⟨u,q1,?_⟩
 unfold gJ at q2⊢
 cases hq:fr.any (Nat.beq j)with
 | true=>simp[aK,aR]
 | false=>
  rw[hq]at q2
  have hji:Nat.beq j i=false:=by
   cases hb:Nat.beq j i
   ·rfl
   rw[Nat.eq_of_beq_eq_true hb]at hq
   rw[hq]at hfr
   cases hfr
  simp only[cond_false,aH,hji]at q2⊢
  exact cI (fun _ _=>rfl) (fun b hb=>⟨m2 b hb.1,hb.2⟩) .refl _ _ q2
theorem Ta {i k t z n t':Nat}{l:List Tr}{fv fv':FV}(hi:Nat.blt i x.n=true) (hg:g i=fv) (ho:bE ob k=some ⟨t,z,l.map .t⟩) (hz:l.length=n*z) (hf:FzF (.sl k 0 n) (.s false t' z n l) fv fv') (hfr:fr.any (Nat.beq i)=true) (hK:K.contains k=false) (kk:WD x ops Q late K fr on fuel listed (aH g i fv') (ob.set k none)):WD x ops Q late K fr on fuel listed g ob:=Sf hi hg ho hf (Bs t' ho hz) hfr hK kk
end
end Go.Proofs.YteggpgndiajdpaaGreatDoor
