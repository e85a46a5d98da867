/- Part 4 of a proof: Av18 to Av22. -/
import Derived.Test.YteggpgndiajdpaaGreatDoorM3
import Derived.Test.YteggpgndiajdpaaGreatDoorChecked
set_option maxRecDepth 100000
set_option linter.unusedVariables false
set_option linter.unusedSimpArgs false
namespace Go.Proofs.YteggpgndiajdpaaGreatDoor
open Go Go.RowKit
section
variable {x:Cx}{g g':Nat→FV}{ob ob':List (Option Ob)}{cs cs':List Co}{ts ts':Array Value}{W W':World}{T:List (Nat×TI)}{Q:Post}{ops:Array Oper}{d:Nat}{op:Op}{ty:TypeId}{pos:String}{af:Array Edge}{gd:Option (Nat×Bool)}{late:Nat→Bool}{K fr:List Nat}{on:Bool}{fuel:Nat}{listed:Array Bool}
theorem rD {v:FV}:∀j,some d≠some j→aR g d v j=g j:=fun j hj=>by
 have hb:Nat.beq j d=false:=by
  cases hq:Nat.beq j d
  ·rfl
  exact absurd (by rw[Nat.eq_of_beq_eq_true hq]) hj
 simp[aR,hb]
theorem dn (i:Nat) (hi:ops[i]? =some ⟨some d,op,ty,pos,af,gd⟩) (hst:iW ops late listed i=true) (hw:aQ ops x.n g gd=some false)
  (k:WD x ops Q late K fr true fuel (listed.setIfInBounds i true) (aR g d (.one (tv undef))) ob):WD x ops Q late K fr true (fuel+1) listed g ob:=by
 intro Kp W1 cs ts W hR hK1 hK2 hon
 have hk:=hon rfl
 simp only[iW,Bool.and_eq_true]at hst
 obtain⟨s1,s2,s3,s4⟩:=hst
 exact qO hi (Region.noSelect_spec s1) (fun c a w h=>h) (fun j oj hj hlj=>mN s4 j oj hj hlj) fuel listed _ W (Region.free_spec hi s2) (by simpa using s3) (.inr ⟨iH hw hR,rfl⟩) hk.same
  (k Kp W1 cs _ W (hR.put d (v:=.one (tv undef)) (eI (by simp[tv,AR,FR]))) hK1 hK2 fun _=>hk.put hR.1 (v:=.one (tv undef)) (eI (by simp[tv,AR,FR])))
theorem WD.split {t:Nat}{p:Prop} [Decidable p] (h:lk x.n g (.tmp t)=.one (tv (.bool (decide p)))) (ht:g t=.one (tv (.bool (decide p)))) (h1:p→WD x ops Q late K fr on fuel listed (aR g t (.one (tv (.bool true)))) ob) (h2:¬p→WD x ops Q late K fr on fuel listed (aR g t (.one (tv (.bool false)))) ob):WD x ops Q late K fr on fuel listed g ob:=by
 have key:∀b:Bool,decide p=b→aR g t (.one (tv (.bool b)))=g:=fun b hb=>by
  funext i
  unfold aR
  cases hq:Nat.beq i t
  ·rfl
  rw[Nat.eq_of_beq_eq_true hq,ht,hb]
  rfl
 by_cases hp:p
 ·rw[←key true (by simp[hp])]
  exact h1 hp
 rw[←key false (by simp[hp])]
 exact h2 hp
theorem WL.split {t:Nat}{rest:List Oper}{p:Prop} [Decidable p] (ht:g t=.one (tv (.bool (decide p)))) (h1:p→WL x ops rest (aR g t (.one (tv (.bool true)))) ob Q) (h2:¬p→WL x ops rest (aR g t (.one (tv (.bool false)))) ob Q):WL x ops rest g ob Q:=by
 have key:∀b:Bool,decide p=b→aR g t (.one (tv (.bool b)))=g:=fun b hb=>by
  funext i
  unfold aR
  cases hq:Nat.beq i t
  ·rfl
  rw[Nat.eq_of_beq_eq_true hq,ht,hb]
  rfl
 by_cases hp:p
 ·rw[←key true (by simp[hp])]
  exact h1 hp
 rw[←key false (by simp[hp])]
 exact h2 hp
def Wf (K:List Nat) (ob:List (Option Ob)):Bool:=K.all fun k=>Nat.blt k ob.length
theorem Ro {o:Option Ob}{l:List (Option Ob)}(h:Wf K ob=true) (k:Nat) (hk:k∈K):(ob++l)[k]? =ob[k]? :=by
 have:=List.all_eq_true.1 h k hk
 have hlt:k<ob.length:=by simpa[Nat.blt,Nat.lt_iff_add_one_le]using this
 exact List.getElem?_append_left hlt
def nP (ob ob':List (Option Ob)):List Nat→Prop
 | []=>True
 | k::K=>ob'[k]? =ob[k]? ∧nP ob ob' K
theorem iJ:∀{K:List Nat},nP ob ob' K→∀k∈K,ob'[k]? =ob[k]?
 | [],_,k,hk=>by simp at hk
 | k0::K,h,k,hk=>by
  rcases List.mem_cons.1 hk with rfl | hk
  ·exact h.1
  exact iJ h.2 k hk
theorem Gs {o:Oper}{R:(Nat→FV)→List (Option Ob)→Prop}{v:FV}(i:Nat) (hr:Region.ready .any ops listed=[i]) (hi:ops[i]? =some o) (hd:o.dst=some d) (hw:aQ ops x.n g o.guard=some true) (h:OS x o g ob [] R)
  (hg:∀g' ob',R g' ob'→g'=aR g d v∧∀k∈K,ob'[k]? =ob[k]?) (k:∀g' ob',R g' ob'→WD x ops Q late K (d::fr) true fuel (listed.setIfInBounds i true) g' ob'):WD x ops Q late K fr true (fuel+1) listed g ob:=by
 refine Ag i hr hi hw h true (fun _=>⟨rfl,fun _ _ h=>by simp at h⟩) (fun _=>rfl) (fun _ g' ob' hR=>?_) fun g' ob' hR=>by rw[hd];exact k g' ob' hR
 obtain⟨h1,h2⟩:=hg g' ob' hR
 exact⟨by rw[hd,h1];exact rD,h2⟩
theorem Wg {fresh:Bool}{f:FuncId}{args:List FV}{r v:FV}{aa:Array Operand}{ats:Array TypeId}(i:Nat) (hr:Region.ready .any ops listed=[i]) (hi:ops[i]? =some ⟨some d,.call ⟨.value (.func f),aa,ats⟩,ty,pos,af,gd⟩) (hw:aQ ops x.n g gd=some true) (hS:aL fresh x.P f [] args (aU r)) (hf:CallOk x.P f) (ha:AL fresh x g ob aa.toList args) (hv:sQ r=v)
  (k:WD x ops Q late K (d::fr) true fuel (listed.setIfInBounds i true) (aR g d v) ob):WD x ops Q late K fr true (fuel+1) listed g ob:=
 Gs (v:=v) i hr hi rfl hw (wV hS hf ha) (by rintro _ _ ⟨r',rfl,rfl,rfl⟩;exact⟨by rw[hv],fun _ _=>rfl⟩) (by rintro _ _ ⟨r',rfl,rfl,rfl⟩;rw[hv];exact k)
theorem dA {t key:Nat}(i:Nat) (hr:Region.ready .any ops listed=[i]) (hi:ops[i]? =some ⟨some d,.alloc t,ty,pos,af,gd⟩) (hw:aQ ops x.n g gd=some true) (hT:bO x.P T) (h:wQ T t key ob=some ob') (hke:nP ob ob' K)
  (k:WD x ops Q late K (d::fr) true fuel (listed.setIfInBounds i true) (aR g d (.one (.pt key 0))) ob'):WD x ops Q late K fr true (fuel+1) listed g ob:=
 Gs (v:=.one (.pt key 0)) i hr hi rfl hw (Gj hT h) (by rintro _ _ ⟨rfl,rfl⟩;exact⟨rfl,iJ hke⟩) (by rintro _ _ ⟨rfl,rfl⟩;exact k)
theorem At {o:Oper}{R:(Nat→FV)→List (Option Ob)→Prop}{v:FV}(i:Nat) (hi:ops[i]? =some o) (hd:o.dst=some d) (hw:aQ ops x.n g o.guard=some true) (h:OS x o g ob [] R)
  (hg:∀g' ob',R g' ob'→g'=aR g d v∧∀k∈K,ob'[k]? =ob[k]?) (k:∀g' ob',R g' ob'→WD x ops Q late K (d::fr) true fuel (listed.setIfInBounds i true) g' ob'):WO x ops Q late K fr true fuel listed i g ob:=by
 refine Wc i hi hw h true (fun _=>⟨rfl,fun _ _ h=>by simp at h⟩) (fun _=>rfl) (fun _ g' ob' hR=>?_) fun g' ob' hR=>by rw[hd];exact k g' ob' hR
 obtain⟨h1,h2⟩:=hg g' ob' hR
 exact⟨by rw[hd,h1];exact rD,h2⟩
theorem Wh {fresh:Bool}{f:FuncId}{args:List FV}{r v:FV}{aa:Array Operand}{ats:Array TypeId}(i:Nat) (hi:ops[i]? =some ⟨some d,.call ⟨.value (.func f),aa,ats⟩,ty,pos,af,gd⟩) (hw:aQ ops x.n g gd=some true) (hS:aL fresh x.P f [] args (aU r)) (hf:CallOk x.P f) (ha:AL fresh x g ob aa.toList args) (hv:sQ r=v)
  (k:WD x ops Q late K (d::fr) true fuel (listed.setIfInBounds i true) (aR g d v) ob):WO x ops Q late K fr true fuel listed i g ob:=
 At (v:=v) i hi rfl hw (wV hS hf ha) (by rintro _ _ ⟨r',rfl,rfl,rfl⟩;exact⟨by rw[hv],fun _ _=>rfl⟩) (by rintro _ _ ⟨r',rfl,rfl,rfl⟩;rw[hv];exact k)
theorem bD {t key:Nat}(i:Nat) (hi:ops[i]? =some ⟨some d,.alloc t,ty,pos,af,gd⟩) (hw:aQ ops x.n g gd=some true) (hT:bO x.P T) (h:wQ T t key ob=some ob') (hke:nP ob ob' K)
  (k:WD x ops Q late K (d::fr) true fuel (listed.setIfInBounds i true) (aR g d (.one (.pt key 0))) ob'):WO x ops Q late K fr true fuel listed i g ob:=
 At (v:=.one (.pt key 0)) i hi rfl hw (Gj hT h) (by rintro _ _ ⟨rfl,rfl⟩;exact⟨rfl,iJ hke⟩) (by rintro _ _ ⟨rfl,rfl⟩;exact k)
theorem qQ {t len key:Nat}{ps:Array (Nat×Operand)}(i:Nat) (hr:Region.ready .any ops listed=[i]) (hi:ops[i]? =some ⟨some d,.buildSlice t len ps,ty,pos,af,gd⟩) (hw:aQ ops x.n g gd=some true) (hT:bO x.P T) (h:wW T x.n g t len key ps.toList ob=some ob') (hke:nP ob ob' K)
  (k:WD x ops Q late K (d::fr) true fuel (listed.setIfInBounds i true) (aR g d (.one (.sl key 0 len))) ob'):WD x ops Q late K fr true (fuel+1) listed g ob:=
 Gs (v:=.one (.sl key 0 len)) i hr hi rfl hw (Gq hT h) (by rintro _ _ ⟨rfl,rfl⟩;exact⟨rfl,iJ hke⟩) (by rintro _ _ ⟨rfl,rfl⟩;exact k)
theorem gR {C:Prop}{v:FV}(i:Nat) (hr:Region.ready .any ops listed=[i]) (hi:ops[i]? =some ⟨some d,op,ty,pos,af,gd⟩) (hw:aQ ops x.n g gd=some true) (hT:bO x.P T) (h:qE T x.n g op=some (C,v)) (hC:C)
  (k:WD x ops Q late K (d::fr) on fuel (listed.setIfInBounds i true) (aR g d v) ob) (hl:late i=false→on=true):WD x ops Q late K fr on (fuel+1) listed g ob:=by
 refine Ag i hr hi hw (Vz hT h hC) on (fun h=>⟨h,fun _ _ h=>by simp at h⟩) hl (fun _ g' ob' hR=>?_) fun g' ob' hR=>?_
 ·obtain⟨rfl,rfl⟩:=hR
  exact⟨rD,fun _ _=>rfl⟩
 obtain⟨rfl,rfl⟩:=hR
 exact k
theorem BX {t:Nat}{ti:TI}{a b:Operand}(i:Nat) (hr:Region.ready .any ops listed=[i]) (hi:ops[i]? =some ⟨none,.store t a b,ty,pos,af,gd⟩) (hw:aQ ops x.n g gd=some true) (hT:bO x.P T) (hti:aX T t=some ti) (h:tO ti ob (lk x.n g b) (lk x.n g a)=some ob') (hl:late i=true)
  (k:WD x ops Q late K fr false fuel (listed.setIfInBounds i true) g ob'):WD x ops Q late K fr on (fuel+1) listed g ob:=by
 obtain⟨ky,hs,_⟩:=Gl (ty:=ty) (pos:=pos) (af:=af) (gd:=gd) hT hti h
 refine Ag i hr hi hw hs false (fun h=>by cases h) (fun h=>by rw[hl]at h;cases h) (fun h=>by cases h) fun g' ob' hR=>?_
 obtain⟨rfl,rfl⟩:=hR
 exact k
theorem aN {t key o:Nat}{ti:TI}{a b:Operand}(i:Nat) (hr:Region.ready .any ops listed=[i]) (hi:ops[i]? =some ⟨none,.store t a b,ty,pos,af,gd⟩) (hw:aQ ops x.n g gd=some true) (hT:bO x.P T) (hti:aX T t=some ti) (h:tO ti ob (lk x.n g b) (lk x.n g a)=some ob') (hlk:lk x.n g a=.one (.pt key o)) (hK:K.contains key=false) (hke:nP ob ob' K)
  (k:WD x ops Q late K fr true fuel (listed.setIfInBounds i true) g ob'):WD x ops Q late K fr true (fuel+1) listed g ob:=by
 obtain⟨ky,hs,o2,hlk2⟩:=Gl (ty:=ty) (pos:=pos) (af:=af) (gd:=gd) hT hti h
 rw[hlk]at hlk2
 injection hlk2 with e
 injection e with e1 e2
 subst e1
 refine Ag i hr hi hw hs true (fun _=>⟨rfl,fun k hk hm=>?_⟩) (fun _=>rfl) (fun _ g' ob' hR=>?_) fun g' ob' hR=>?_
 ·rw[List.mem_singleton]at hm
  subst hm
  have:K.contains k=true:=by simpa using hk
  rw[hK]at this
  cases this
 ·obtain⟨rfl,rfl⟩:=hR
  exact⟨fun _ _=>rfl,iJ hke⟩
 obtain⟨rfl,rfl⟩:=hR
 exact k
theorem WL.splitb {t:Nat}{rest:List Oper}{b:Bool}(ht:g t=.one (tv (.bool b))) (h1:b=true→WL x ops rest (aR g t (.one (tv (.bool true)))) ob Q) (h2:b=false→WL x ops rest (aR g t (.one (tv (.bool false)))) ob Q):WL x ops rest g ob Q:=by
 have key:∀b':Bool,b=b'→aR g t (.one (tv (.bool b')))=g:=fun b' hb=>by
  funext i
  unfold aR
  cases hq:Nat.beq i t
  ·rfl
  rw[Nat.eq_of_beq_eq_true hq,ht,hb]
  rfl
 cases hb:b
 ·rw[←key false hb]
  exact h2 hb
 rw[←key true hb]
 exact h1 hb
theorem WD.splitb {t:Nat}{b:Bool}(ht:g t=.one (tv (.bool b))) (h1:b=true→WD x ops Q late K fr on fuel listed (aR g t (.one (tv (.bool true)))) ob) (h2:b=false→WD x ops Q late K fr on fuel listed (aR g t (.one (tv (.bool false)))) ob):WD x ops Q late K fr on fuel listed g ob:=by
 have key:∀b':Bool,b=b'→aR g t (.one (tv (.bool b')))=g:=fun b' hb=>by
  funext i
  unfold aR
  cases hq:Nat.beq i t
  ·rfl
  rw[Nat.eq_of_beq_eq_true hq,ht,hb]
  rfl
 cases hb:b
 ·rw[←key false hb]
  exact h2 hb
 rw[←key true hb]
 exact h1 hb
theorem WL.cast {t:Nat}{rest:List Oper}{u u':Value}(ht:g t=.one (tv u)) (e:u=u') (k:WL x ops rest (aR g t (.one (tv u'))) ob Q):WL x ops rest g ob Q:=by
 have:aR g t (.one (tv u'))=g:=by
  funext i
  unfold aR
  cases hq:Nat.beq i t
  ·rfl
  rw[Nat.eq_of_beq_eq_true hq,ht,e]
  rfl
 rwa[this]at k
theorem WD.cast {t:Nat}{u u':Value}(ht:g t=.one (tv u)) (e:u=u') (k:WD x ops Q late K fr on fuel listed (aR g t (.one (tv u'))) ob):WD x ops Q late K fr on fuel listed g ob:=by
 have:aR g t (.one (tv u'))=g:=by
  funext i
  unfold aR
  cases hq:Nat.beq i t
  ·rfl
  rw[Nat.eq_of_beq_eq_true hq,ht,e]
  rfl
 rwa[this]at k
theorem aH {k:IntKind}{a b:Int}(h:a=b):Value.int k a=.int k b:=by rw[h]
theorem Sub.trans {g2:Nat→FV}{ob2:List (Option Ob)}(h:Sub x g ob g' ob') (h':Sub x g' ob' g2 ob2):Sub x g ob g2 ob2:=fun ts W hR=>h' ts W (h ts W hR)
theorem Sub.refl:Sub x g ob g ob:=fun _ _ h=>h
theorem nr {i:Nat}(key e z:Nat) (hz:Nat.beq z 0=false) (hk:dT ob key=true) (hi:Nat.blt i x.n=true) (hg:g i=.one (tv (.slice none 0 0))):Sub x g ob (aR g i (.one (.sl key 0 0))) (ob++[some ⟨e,z,[]⟩]):=by
 rintro ts W ⟨cs,hR⟩
 have hk:=Nat.eq_of_beq_eq_true hk
 have hi:i<x.n:=by simpa[Nat.blt,Nat.lt_iff_add_one_le]using hi
 have hz0:z≠0:=fun e=>by subst e;simp at hz
 have m1:=hR.push (Below.refl _ _) ⟨e,z,[]⟩ ⟨none,0,[]⟩ (by simp[aI]) (by simp[aI]) (by simp[aI]) (by simp[bB]) (fun _=>⟨rfl,hz0⟩)
 obtain⟨u,h1,h2⟩:=hR.fv hi
 rw[hg]at h2
 have h2:=aO h2
 subst h2
 have m2:=m1.put i (v:=.one (.sl key 0 0)) (u:=.slice none 0 0) (by
  refine eI ?_
  simp only[AR]
  rw[←hk,hR.len,fL]
  exact⟨by simp,by trivial,by trivial,by trivial⟩)
 have e:ts.setIfInBounds i (.slice none 0 0)=ts:=by
  apply Array.ext_getElem?
  intro j
  rw[Array.getElem?_setIfInBounds]
  split
  ·rename_i e
   subst e
   split
   ·exact h1.symm
   rename_i h9
   rw[hR.1]at h9
   exact absurd hi h9
  rfl
 rw[e]at m2
 exact⟨_,m2⟩
theorem Pr {t e z by_ n m j:Nat}{zz:Value}{ti:Bool}{ts0:Nat}{z0:List Value}{a b:Operand}{av bv:AV}{l news:List AV}(i:Nat) (hi:ops[i]? =some ⟨some d,.call ⟨.builtin .append, #[a,b], #[t,t]⟩,ty,pos,af,gd⟩) (hT:bO x.P T) (ht:aX T t=some ⟨ti,ts0,z0,.sl e z by_ zz⟩) (ha:lk x.n g a=.one av) (hb:lk x.n g b=.one bv)
  (hd:DstA ob e z av n ob' l) (hs:SrcA ob z bv m news) (hrd:fD news=true) (hlo:dL news=true) (hbytes:(n+m)*by_≤140737488355328) (h63:n+m≤140737488355328) (hK:K=[]) (hj:dT ob j=true) (hr:Region.ready .any ops listed=[i]) (hw:aQ ops x.n g gd=some true)
  (k:WD x ops Q late K (d::fr) true fuel (listed.setIfInBounds i true) (aR g d (.one (.sl j 0 (n+m)))) (ob'++[some ⟨e,z,l++news⟩])):WD x ops Q late K fr true (fuel+1) listed g ob:=by
 subst hK
 obtain⟨Wr,h,_⟩:=Jr (d:=d) (ty:=ty) (pos:=pos) (af:=af) (gd:=gd) hT ht ha hb hd hs hrd hlo hj hbytes h63
 refine Ag i hr hi hw h true (fun _=>⟨rfl,fun _ h=>by simp at h⟩) (fun _=>rfl) (fun _ g' ob' hR=>?_) fun g' ob' hR=>?_
 ·obtain⟨rfl,rfl⟩:=hR
  exact⟨rD,fun _ h=>by simp at h⟩
 obtain⟨rfl,rfl⟩:=hR
 exact k
end
def rE (k:Nat):AV→Option (AV×List Ob)
 | .t (.s true t z n l)=>match Nat.beq z 0 with
  | false=>some (.sl k 0 n,[⟨t,z,l.map .t⟩])
  | true=>none
 | .t (.p true t l)=>some (.pt k 0,[⟨t,0,l.map .t⟩])
 | .t (.s false t z n l)=>some (.t (.s false t z n l),[])
 | .t (.p false t l)=>some (.t (.p false t l),[])
 | .t (.v v)=>some (.t (.v v),[])
 | .t (.f g l0 l)=>some (.t (.f g l0 l),[])
 | _=>none
def lS (k:Nat):List AV→Option (List AV×List Ob)
 | []=>some ([],[])
 | a::l=>match rE k a with
  | some (a',[])=>match lS k l with
   | some (l',os)=>some (a'::l',os)
   | none=>none
  | some (a',o::_)=>match lS (k+1) l with
   | some (l',os)=>some (a'::l',o::os)
   | none=>none
  | none=>none
def gI:VT→Co
 | .w _=>⟨none,0,[]⟩
 | .s b c _ _ _ l=>⟨some b,c,l⟩
 | .p b _ l=>⟨some b,0,l⟩
section
variable {W:World}{N:Nat→Prop}
theorem sE {k:Nat}{a a':AV}{os:List Ob}{y:VT}(hc:CR W N [] a y) (hok:y.ok W) (h:rE k a=some (a',os)):
  (os=[]∧y.fp=[]∧∀(N':Nat→Prop) (cs:List Co),(∀b,N b→N' b)→AR W N' cs a' y.val)∨
  (∃o,os=[o]∧(aI (some o) (gI y)).S=y.fp∧(aI (some o) (gI y)).φ W∧(∀(N':Nat→Prop) (cs:List Co),(∀b,N b→N' b)→k<cs.length→co cs k=gI y→AR W N' cs a' y.val∧bB W N' cs o.l (gI y).l)∧((gI y).b=none→o.l=[]∧o.z≠0)):=by
 unfold rE at h
 split at h
 ·rename_i t z n l
  split at h
  ·rename_i hz
   injection h with h
   injection h with h1 h2
   subst h1 h2
   refine .inr ⟨_,rfl,?_⟩
   have hz0:z≠0:=fun e=>by subst e;simp at hz
   simp only[CR]at hc
   cases y with
   | w u=>
    simp only[OR]at hc
    rcases hc with⟨_,rfl,rfl,rfl⟩ | ⟨hc,_⟩
    ·refine⟨rfl,by simp[aI,gI],fun N' cs hN hk hco=>⟨?_,by simp[bB,gI]⟩,fun _=>⟨rfl,hz0⟩⟩
     simp only[AR,hco,gI,VT.val]
     exact⟨hk,by trivial,by trivial,by trivial⟩
    cases hc
   | s b c t' z' n' l'=>
    simp only[OR]at hc
    obtain⟨_,rfl,rfl,rfl,hl⟩:=hc
    simp only[VT.ok]at hok
    obtain⟨k1,k2,k3,k4,k5⟩:=hok
    refine⟨rfl,?_,fun N' cs hN hk hco=>⟨?_,wT (ORL_keep (fun _ _=>rfl) hN _ _ hl)⟩,fun h=>by cases h⟩
    ·simp only[aI,gI]
     rw[hz,cond_false]
     exact⟨k1,k5,k3⟩
    simp only[AR,hco,gI,VT.val]
    exact⟨hk,0,c,rfl,k2,by unfold maxLen at k3;omega,fun _=>rfl,fun _=>rfl⟩
   | p b t' l'=>simp only[OR]at hc
  cases h
 ·rename_i t l
  injection h with h
  injection h with h1 h2
  subst h1 h2
  refine .inr ⟨_,rfl,?_⟩
  simp only[CR]at hc
  cases y with
  | w u=>
   simp only[OR]at hc
   cases hc.1
  | s b c t' z' n' l'=>simp only[OR]at hc
  | p b t' l'=>
   simp only[OR]at hc
   obtain⟨_,rfl,hl⟩:=hc
   simp only[VT.ok]at hok
   refine⟨rfl,?_,fun N' cs hN hk hco=>⟨?_,wT (ORL_keep (fun _ _=>rfl) hN _ _ hl)⟩,fun h=>by cases h⟩
   ·simp only[aI,gI]
    exact⟨hok.1,hok.2,Nat.zero_le _⟩
   simp only[AR,hco,gI,VT.val]
   exact⟨b,rfl,rfl⟩
 ·injection h with h
  injection h with h1 h2
  subst h1 h2
  have hr:=vA hc rfl
  refine .inl ⟨rfl,?_,fun N' cs hN=>fJ (fun _ _=>rfl) hN ⟨Nat.zero_le _,fun k hk=>by simp at hk⟩ _ _ hr⟩
  simp only[CR]at hc
  cases y with
  | w u=>rfl
  | s=>simp only[OR]at hc;cases hc.1
  | p=>simp only[OR]at hc
 ·injection h with h
  injection h with h1 h2
  subst h1 h2
  have hr:=vA hc rfl
  refine .inl ⟨rfl,?_,fun N' cs hN=>fJ (fun _ _=>rfl) hN ⟨Nat.zero_le _,fun k hk=>by simp at hk⟩ _ _ hr⟩
  simp only[CR]at hc
  cases y with
  | w u=>rfl
  | s=>simp only[OR]at hc
  | p=>simp only[OR]at hc;cases hc.1
 ·injection h with h
  injection h with h1 h2
  subst h1 h2
  have hr:=vA hc rfl
  refine .inl ⟨rfl,?_,fun N' cs hN=>fJ (fun _ _=>rfl) hN ⟨Nat.zero_le _,fun k hk=>by simp at hk⟩ _ _ hr⟩
  simp only[CR,OR]at hc
  subst hc
  rfl
 ·injection h with h
  injection h with h1 h2
  subst h1 h2
  have hr:=vA hc rfl
  refine .inl ⟨rfl,?_,fun N' cs hN=>fJ (fun _ _=>rfl) hN ⟨Nat.zero_le _,fun k hk=>by simp at hk⟩ _ _ hr⟩
  simp only[CR]at hc
  cases y with
  | w u=>rfl
  | s=>simp only[OR]at hc
  | p=>simp only[OR]at hc
 cases h
theorem sF:∀{l l':List AV}{k:Nat}{os:List Ob}{ys:List VT},bB W N [] l ys→VT.okL W ys→lS k l=some (l',os)→∃cs2:List Co,cs2.length=os.length∧(aE (os.map some) cs2).flatMap Res.S=VT.fpL ys∧(∀r∈aE (os.map some) cs2,r.φ W)∧
  ∀(N':Nat→Prop) (cs:List Co),(∀b,N b→N' b)→k+os.length≤cs.length→(∀i,i<os.length→co cs (k+i)=co cs2 i)→ARL W N' cs l' (ys.map VT.val)∧∀(i:Nat) (o:Ob),os[i]? =some o→bB W N' cs o.l (co cs2 i).l∧((co cs2 i).b=none→o.l=[]∧o.z≠0)
 | [],l',k,os,ys,hc,hok,h=>by
  simp only[bB]at hc
  subst hc
  simp[lS]at h
  obtain⟨rfl,rfl⟩:=h
  exact⟨[],rfl,rfl,by simp[aE],fun N' cs hN hk hco=>⟨by simp[ARL],fun i o ho=>by simp at ho⟩⟩
 | a::l,l',k,os,[],hc,hok,h=>by simp only[bB]at hc
 | a::l,l',k,os,y::ys,hc,hok,h=>by
  simp only[bB]at hc
  simp only[VT.okL]at hok
  unfold lS at h
  split at h
  ·rename_i a' ha
   split at h
   ·rename_i l2 os2 hl
    injection h with h
    injection h with h1 h2
    subst h1 h2
    obtain⟨cs2,e1,e2,e3,e4⟩:=sF hc.2 hok.2 hl
    rcases sE hc.1 hok.1 ha with⟨_,f1,f2⟩ | ⟨o,f1,_⟩
    ·refine⟨cs2,e1,by rw[e2];simp[VT.fpL,f1],e3,fun N' cs hN hk hco=>?_⟩
     obtain⟨g1,g2⟩:=e4 N' cs hN hk hco
     simp only[List.map_cons,ARL]
     exact⟨⟨f2 N' cs hN,g1⟩,g2⟩
    cases f1
   cases h
  ·rename_i a' o os0 ha
   split at h
   ·rename_i l2 os2 hl
    injection h with h
    injection h with h1 h2
    subst h1 h2
    obtain⟨cs2,e1,e2,e3,e4⟩:=sF hc.2 hok.2 hl
    rcases sE hc.1 hok.1 ha with⟨f1,_⟩ | ⟨o',f1,f2,f3,f4,f5⟩
    ·cases f1
    injection f1 with f1 _
    subst f1
    refine⟨gI y::cs2,by simp[e1],?_,?_,fun N' cs hN hk hco=>?_⟩
    ·unfold aE at e2⊢
     simp only[List.map_cons,List.zipWith_cons_cons,List.flatMap_cons,VT.fpL,f2,e2]
    ·unfold aE at e3⊢
     simp only[List.map_cons,List.zipWith_cons_cons]
     intro r hr
     rcases List.mem_cons.1 hr with rfl | hr
     ·exact f3
     exact e3 r hr
    simp only[List.length_cons]at hk hco
    have h0:=hco 0 (by omega)
    obtain⟨g1,g2⟩:=f4 N' cs hN (by omega) h0
    obtain⟨g3,g4⟩:=e4 N' cs hN (by omega) (fun i hi=>by
     have:=hco (i+1) (by omega)
     rw[show k+(i+1)=k+1+i by omega]at this
     rw[this]
     simp[co])
    simp only[List.map_cons,ARL]
    refine⟨⟨g1,g3⟩,fun i o ho=>?_⟩
    cases i with
    | zero=>
     simp at ho
     subst ho
     exact⟨g2,f5⟩
    | succ i=>
     have:=g4 i o (by simpa using ho)
     simpa[co]using this
   cases h
  cases h
end
def rF (k:Nat):FV→Option (FV×List Ob)
 | .one a=>match rE k a with
  | some (a',os)=>some (.one a',os)
  | none=>none
 | .agg l=>match lS k l with
  | some (l',os)=>some (.agg l',os)
  | none=>none
 | _=>none
def tX (k:Nat):List FV→Option (List FV×List Ob)
 | []=>some ([],[])
 | a::l=>match rF k a with
  | some (a',os)=>match tX (k+os.length) l with
   | some (l',os')=>some (a'::l',os++os')
   | none=>none
  | none=>none
def lO (k:Nat):FV→Option (FV×List Ob)
 | .tup l=>match tX k l with
  | some (l',os)=>some (.tup l',os)
  | none=>none
 | v=>rF k v
section
variable {W:World}{N:Nat→Prop}
def Bnd (W:World) (N:Nat→Prop) (k:Nat) (os:List Ob) (ys:List VT) (A:(Nat→Prop)→List Co→Prop):Prop:=∃cs2:List Co,cs2.length=os.length∧(aE (os.map some) cs2).flatMap Res.S=VT.fpL ys∧(∀r∈aE (os.map some) cs2,r.φ W)∧
  ∀(N':Nat→Prop) (cs:List Co),(∀b,N b→N' b)→k+os.length≤cs.length→(∀i,i<os.length→co cs (k+i)=co cs2 i)→A N' cs∧∀(i:Nat) (o:Ob),os[i]? =some o→bB W N' cs o.l (co cs2 i).l∧((co cs2 i).b=none→o.l=[]∧o.z≠0)
theorem wX {k:Nat}{r v:FV}{os:List Ob}{u:Value}{ys:List VT}(hr:qF W N [] r u ys) (hok:VT.okL W ys) (h:rF k r=some (v,os)):Bnd W N k os ys (fun N' cs=>bR W N' cs v u):=by
 cases r with
 | any=>exact hr.elim
 | tup l=>exact hr.elim
 | one a=>
  obtain⟨z,rfl,rfl,hc⟩:=hr
  unfold rF at h
  dsimp only at h
  split at h
  ·rename_i a' os' ha
   injection h with h
   injection h with h1 h2
   subst h1 h2
   have hl:lS k [a]=some ([a'],os')∨∃o r,os'=o::r:=by
    cases os' with
    | nil=>left;simp[lS,ha]
    | cons o r=>exact .inr ⟨o,r,rfl⟩
   have hl2:lS k [a]=some ([a'],os'):=by
    rcases hl with hl | ⟨o,r,rfl⟩
    ·exact hl
    have hr':r=[]:=by
     rcases sE hc (by simpa[VT.okL]using hok) ha with⟨f1,_⟩ | ⟨o',f1,_⟩
     ·cases f1
     injection f1
    subst hr'
    simp[lS,ha]
   obtain⟨cs2,e1,e2,e3,e4⟩:=sF (l:=[a]) (ys:=[z]) (by simp only[bB];exact⟨hc,trivial⟩) hok hl2
   refine⟨cs2,e1,e2,e3,fun N' cs hN hk hco=>?_⟩
   obtain⟨g1,g2⟩:=e4 N' cs hN hk hco
   simp only[List.map_cons,ARL]at g1
   exact⟨g1.1,g2⟩
  cases h
 | agg l=>
  obtain⟨rfl,hc⟩:=hr
  unfold rF at h
  dsimp only at h
  split at h
  ·rename_i l' os' hl
   injection h with h
   injection h with h1 h2
   subst h1 h2
   obtain⟨cs2,e1,e2,e3,e4⟩:=sF hc hok hl
   refine⟨cs2,e1,e2,e3,fun N' cs hN hk hco=>?_⟩
   obtain⟨g1,g2⟩:=e4 N' cs hN hk hco
   exact⟨⟨_,rfl,g1⟩,g2⟩
  cases h
theorem Bnd.app {k:Nat}{os os':List Ob}{ys ys':List VT}{A B:(Nat→Prop)→List Co→Prop}(h:Bnd W N k os ys A) (h':Bnd W N (k+os.length) os' ys' B):Bnd W N k (os++os') (ys++ys') (fun N cs=>A N cs∧B N cs):=by
 obtain⟨c1,a1,a2,a3,a4⟩:=h
 obtain⟨c2,b1,b2,b3,b4⟩:=h'
 have hr:aE ((os++os').map some) (c1++c2)=aE (os.map some) c1++aE (os'.map some) c2:=by
  unfold aE
  rw[List.map_append,List.zipWith_append (by simp[a1])]
 have hc1:∀i,i<os.length→co (c1++c2) i=co c1 i:=fun i hi=>by simp[co,List.getElem?_append_left (show i<c1.length by omega)]
 have hc2:∀i,co (c1++c2) (os.length+i)=co c2 i:=fun i=>by
  unfold co
  rw[List.getElem?_append_right (by omega),show os.length+i-c1.length=i by omega]
 refine⟨c1++c2,by simp[a1,b1],by rw[hr,List.flatMap_append,a2,b2,iP],fun r hm=>?_,fun N' cs hN hk hco=>?_⟩
 ·rw[hr]at hm
  rcases List.mem_append.1 hm with hm | hm
  ·exact a3 r hm
  exact b3 r hm
 simp only[List.length_append]at hk hco
 obtain⟨g1,g2⟩:=a4 N' cs hN (by omega) (fun i hi=>by rw[hco i (by omega),hc1 i hi])
 obtain⟨g3,g4⟩:=b4 N' cs hN (by omega) (fun i hi=>by
  have:=hco (os.length+i) (by omega)
  rw[hc2,show k+(os.length+i)=k+os.length+i by omega]at this
  exact this)
 refine⟨⟨g1,g3⟩,fun i o ho=>?_⟩
 rcases Nat.lt_or_ge i os.length with hi | hi
 ·rw[List.getElem?_append_left hi]at ho
  rw[hc1 i hi]
  exact g2 i o ho
 rw[List.getElem?_append_right hi]at ho
 have:=g4 (i-os.length) o ho
 rw[←hc2,show os.length+(i-os.length)=i by omega]at this
 exact this
theorem Eh:∀{l l':List FV}{k:Nat}{os:List Ob}{us:List Value}{ys:List VT},qX W N [] l us ys→VT.okL W ys→tX k l=some (l',os)→Bnd W N k os ys (fun N' cs=>cM W N' cs l' us)
 | [],l',k,os,us,ys,hr,hok,h=>by
  simp[tX]at h
  obtain⟨rfl,rfl⟩:=h
  obtain⟨rfl,rfl⟩:=hr
  exact⟨[],rfl,rfl,by simp[aE],fun N' cs hN hk hco=>⟨by simp[cM],fun i o ho=>by simp at ho⟩⟩
 | a::l,l',k,os,us,ys,⟨v,vs,y1,y2,h1,h2,h3,h4⟩,hok,h=>by
  subst h1 h2
  rw[kW]at hok
  unfold tX at h
  split at h
  ·rename_i a' os1 ha
   split at h
   ·rename_i l2 os2 hl
    injection h with h
    injection h with e1 e2
    subst e1 e2
    have q1:=wX h3 hok.1 ha
    have q2:=Eh h4 hok.2 hl
    obtain⟨cs2,e1,e2,e3,e4⟩:=q1.app q2
    exact⟨cs2,e1,e2,e3,fun N' cs hN hk hco=>by
     obtain⟨g1,g2⟩:=e4 N' cs hN hk hco
     exact⟨by simp only[cM];exact g1,g2⟩⟩
   cases h
  cases h
theorem Au {k:Nat}{r v:FV}{os:List Ob}{u:Value}{ys:List VT}(hr:RO W N [] r u ys) (hok:VT.okL W ys) (h:lO k r=some (v,os)):Bnd W N k os ys (fun N' cs=>bF W N' cs v u):=by
 cases r with
 | tup l=>
  obtain⟨us,rfl,h2⟩:=hr
  unfold lO at h
  dsimp only at h
  split at h
  ·rename_i l' os' hl
   injection h with h
   injection h with h1 h2
   subst h1 h2
   obtain⟨cs2,e1,e2,e3,e4⟩:=Eh h2 hok hl
   exact⟨cs2,e1,e2,e3,fun N' cs hN hk hco=>⟨⟨us,rfl,(e4 N' cs hN hk hco).1⟩,(e4 N' cs hN hk hco).2⟩⟩
  cases h
 | any=>exact hr.elim
 | one a=>
  obtain⟨cs2,e1,e2,e3,e4⟩:=wX (r:=.one a) hr hok h
  exact⟨cs2,e1,e2,e3,fun N' cs hN hk hco=>⟨iO (e4 N' cs hN hk hco).1,(e4 N' cs hN hk hco).2⟩⟩
 | agg l=>
  obtain⟨cs2,e1,e2,e3,e4⟩:=wX (r:=.agg l) hr hok h
  exact⟨cs2,e1,e2,e3,fun N' cs hN hk hco=>⟨iO (e4 N' cs hN hk hco).1,(e4 N' cs hN hk hco).2⟩⟩
end
section
variable {x:Cx}{g g':Nat→FV}{ob ob':List (Option Ob)}{cs cs':List Co}{ts ts':Array Value}{W W':World}{T:List (Nat×TI)}{Q:Post}{ops:Array Oper}{rest:List Oper}{d:Nat}{ty:TypeId}{pos:String}{af:Array Edge}{gd:Option (Nat×Bool)}
theorem Av {fresh:Bool}{f:FuncId}{args:List FV}{R:List Lt→FV→Prop}{aa:Array Operand}{ats:Array TypeId}{key:Nat}(hS:aL fresh x.P f [] args R) (hf:CallOk x.P f) (ha:AL fresh x g ob aa.toList args) (hk:dT ob key=true) (hb:∀r,R [] r→(lO key r).isSome=true):
  OS x ⟨some d,.call ⟨.value (.func f),aa,ats⟩,ty,pos,af,gd⟩ g ob [] (fun g' ob'=>∃r v os,R [] r∧lO key r=some (v,os)∧g'=aR g d v∧ob'=ob++os.map some):=by
 intro cs ts W hR K Q kk
 have hC:=xX hS ha hR
 obtain⟨fn,c,h1,h2,h3⟩:=hf
 have hrun:(execOp (Act.eval ⟨ts,[]⟩) ⟨some d,.call ⟨.value (.func f),aa,ats⟩,ty,pos,af,gd⟩).run x.P W=.ok (.enter f (aa.toList.map (Act.eval ⟨ts,[]⟩)).toArray) W:=by
  have e0:Act.eval ⟨ts,[]⟩ (.func f)=.func (.func f) #[] #[]:=rfl
  have e1:aa.map (Act.eval ⟨ts,[]⟩)=(aa.toList.map (Act.eval ⟨ts,[]⟩)).toArray:=by apply Array.ext';simp only[Array.toList_map]
  simp[execOp,resolve,e0,Deferred.ofValue,invoke,e1,callFunc,h1,h3]
  intro hn
  rw[hn]at h2
  simp at h2
 unfold Oper.wp
 rw[hrun]
 refine hC.mono fun e W' hE=>?_
 obtain⟨u,r,ys,rfl,hr,hbel,hok,hnd,hfp,hro⟩:=hE
 obtain⟨⟨v,os⟩,hbn⟩:=Option.isSome_iff_exists.1 (hb r hr)
 obtain⟨cs2,e1,e2,e3,e4⟩:=Au hro hok hbn
 have hk:=Nat.eq_of_beq_eq_true hk
 have hlen:=hR.len
 have hrs:aE (ob++os.map some) (cs++cs2)=aE ob cs++aE (os.map some) cs2:=by
  unfold aE
  rw[List.zipWith_append hlen]
 have hext:=hR.2.ext hbel
 have hnew:∀b∈(aE (os.map some) cs2).flatMap Res.S,W.heap.size≤b∧b<W'.heap.size:=fun b hb=>hfp b (by rw[←e2];exact hb)
 have hL:Loc x.M x.w W' (aE (ob++os.map some) (cs++cs2)) []:=by
  rw[hrs]
  refine⟨hext.chg,fun q hq=>?_,fun b hb=>?_,?_,fun _ h=>by cases h⟩
  ·rcases List.mem_append.1 hq with hq | hq
   ·exact hext.res q hq
   exact e3 q hq
  ·rw[List.flatMap_append,List.mem_append]at hb
   rcases hb with hb | hb
   ·exact hext.blk b hb
   exact⟨.inr (Nat.le_trans hR.2.chg.size (hnew b hb).1),(hnew b hb).2⟩
  rw[List.flatMap_append,List.nodup_append]
  refine⟨hext.nd,by rw[e2];exact hnd,fun a ha b hb e=>?_⟩
  subst e
  have:=(hR.2.blk a ha).2
  have:=(hnew a hb).1
  omega
 have hown:∀b∈cE (ob++os.map some) (cs++cs2),b∈cE ob cs∨W.heap.size≤b:=fun b hb=>by
  unfold cE at hb
  rw[hrs,List.flatMap_append,List.mem_append]at hb
  rcases hb with hb | hb
  ·exact .inl hb
  exact .inr (hnew b hb).1
 have hsame:Same cs (cs++cs2):=⟨by simp,fun k hk=>by simp[co,List.getElem?_append_left hk]⟩
 have hcoA:∀k,k<cs.length→co (cs++cs2) k=co cs k:=fun k hk=>by simp[co,List.getElem?_append_left hk]
 have hcoB:∀i,co (cs++cs2) (key+i)=co cs2 i:=fun i=>by
  unfold co
  rw[List.getElem?_append_right (by omega),show key+i-cs.length=i by omega]
 have hN:∀b,x.fr W ob cs b→x.fr W' (ob++os.map some) (cs++cs2) b:=fun b h=>nM h hbel.size hown
 have hkeep:∀b,x.fr W ob cs b→W'.heap[b]? =W.heap[b]? :=fun b h=>hbel.block b h.1.1
 have hN2:∀b,(fresh=false∧b∉VT.fpL ys∧b<W'.heap.size∧(x.fr W ob cs b∨W.heap.size≤b))→x.fr W' (ob++os.map some) (cs++cs2) b:=fun b hb=>by
  obtain⟨_,h5,h6,h7⟩:=hb
  rcases h7 with h7 | h7
  ·exact hN b h7
  refine⟨⟨h6,fun hm=>?_⟩,.inr (.inr (Nat.le_trans hR.2.chg.size h7))⟩
  rw[hrs,List.flatMap_append,List.mem_append]at hm
  rcases hm with hm | hm
  ·have:=(hR.2.blk b hm).2
   omega
  exact h5 (by rw[←e2];exact hm)
 obtain⟨g1,g2⟩:=e4 _ (cs++cs2) hN2 (by simp[e1];omega) (fun i _=>hcoB i)
 have hR':RelC x g (ob++os.map some) (cs++cs2) ts W':=by
  refine .of hR.1 hL ⟨by simp[hlen,e1],fun k o hk'=>?_⟩ (fun i hi=>?_) (hR.3.trans hsame)
  ·rcases Nat.lt_or_ge k ob.length with hlt | hge
   ·rw[List.getElem?_append_left hlt]at hk'
    have h5:=hR.obs.2 k o hk'
    rw[hcoA k (by omega)]
    exact⟨cA hkeep hN hsame _ _ h5.1,h5.2⟩
   rw[List.getElem?_append_right hge]at hk'
   have ho:os[k-ob.length]? =some o:=by
    rw[List.getElem?_map]at hk'
    cases hq:os[k-ob.length]? with
    | none=>rw[hq]at hk';cases hk'
    | some o'=>
     rw[hq]at hk'
     simp at hk'
     rw[hk']
   have h5:=g2 _ o ho
   have e9:=hcoB (k-ob.length)
   rw[show key+(k-ob.length)=k by omega]at e9
   rw[e9]
   exact h5
  obtain⟨u,h5,h6⟩:=hR.fv hi
  exact⟨u,h5,dO hkeep hN hsame _ _ h6⟩
 exact kk _ _ _ _ _ ⟨r,v,os,hr,hbn,rfl,rfl⟩ (hR'.put d g1) ⟨hsame,fun k _ hk=>hcoA k hk,hbel.size,fun b hlt _=>hbel.block b hlt,hown,fun i hi=>Array.getElem?_setIfInBounds_ne (fun e=>hi (by rw[e]))⟩
theorem Rp {fresh:Bool}{f:FuncId}{args:List FV}{r v:FV}{os:List Ob}{aa:Array Operand}{ats:Array TypeId}{key:Nat}(hw:aQ ops x.n g gd=some true) (hS:aL fresh x.P f [] args (aU r)) (hf:CallOk x.P f) (ha:AL fresh x g ob aa.toList args) (hk:dT ob key=true) (hb:lO key r=some (v,os)) (k:WL x ops rest (aR g d v) (ob++os.map some) Q):
  WL x ops (⟨some d,.call ⟨.value (.func f),aa,ats⟩,ty,pos,af,gd⟩::rest) g ob Q:=
 fO (Av hS hf ha hk (by rintro _ rfl;rw[hb];rfl)) hw (by
  rintro _ _ ⟨r',v',os',rfl,h,rfl,rfl⟩
  rw[hb]at h
  injection h with h
  injection h with h1 h2
  subst h1 h2
  exact k)
theorem Rq {late:Nat→Bool}{K fr:List Nat}{fuel:Nat}{listed:Array Bool}{fresh:Bool}{f:FuncId}{args:List FV}{r v:FV}{os:List Ob}{aa:Array Operand}{ats:Array TypeId}{key:Nat}(i:Nat) (hr:Region.ready .any ops listed=[i]) (hi:ops[i]? =some ⟨some d,.call ⟨.value (.func f),aa,ats⟩,ty,pos,af,gd⟩) (hw:aQ ops x.n g gd=some true) (hS:aL fresh x.P f [] args (aU r)) (hf:CallOk x.P f) (ha:AL fresh x g ob aa.toList args) (hk:dT ob key=true) (hb:lO key r=some (v,os)) (hK:Wf K ob=true)
  (k:WD x ops Q late K (d::fr) true fuel (listed.setIfInBounds i true) (aR g d v) (ob++os.map some)):WD x ops Q late K fr true (fuel+1) listed g ob:=
 Gs (v:=v) i hr hi rfl hw (Av hS hf ha hk (by rintro _ rfl;rw[hb];rfl)) (by
  rintro _ _ ⟨r',v',os',rfl,h,rfl,rfl⟩
  rw[hb]at h
  injection h with h
  injection h with h1 h2
  subst h1 h2
  exact⟨rfl,fun k hk'=>Ro (o:=none) hK k hk'⟩) (by
  rintro _ _ ⟨r',v',os',rfl,h,rfl,rfl⟩
  rw[hb]at h
  injection h with h
  injection h with h1 h2
  subst h1 h2
  exact k)
end
set_option maxRecDepth 100000
theorem TyArr.mk2 {P:Program}{t n size:Nat}(e:Nat) (h:P.underlying t=some (.array n e)) (h2:(P.info? e).map (·.size)=some size):TyArr P t n size:=by
 obtain⟨i,h3,h4⟩:=Option.map_eq_some_iff.1 h2
 exact⟨e,i,h,h3,h4⟩
theorem DK:eN Tryz.prog 2 ⟨false,1,[.int .i64 0],.it .i64⟩:=⟨⟨.mk (by kernel_rfl) (by kernel_rfl),rfl⟩,.mk (by kernel_rfl),.mk (by kernel_rfl),.mk (by kernel_rfl)⟩
theorem DL:eN Tryz.prog 3 ⟨false,1,[.int .i64 0],.it .i64⟩:=⟨⟨.mk (by kernel_rfl) (by kernel_rfl),rfl⟩,.mk (by kernel_rfl),.mk (by kernel_rfl),.mk (by kernel_rfl)⟩
theorem DM:eN Tryz.prog 4 ⟨false,1,[.bool false],.bl⟩:=⟨⟨.mk (by kernel_rfl) (by kernel_rfl),rfl⟩,.mk (by kernel_rfl),.mk (by kernel_rfl),.mk (by kernel_rfl)⟩
theorem DN:eN Tryz.prog 5 ⟨false,1,[.int .u8 0],.it .u8⟩:=⟨⟨.mk (by kernel_rfl) (by kernel_rfl),rfl⟩,.mk (by kernel_rfl),.mk (by kernel_rfl),.mk (by kernel_rfl)⟩
theorem DO:eN Tryz.prog 9 ⟨false,1,[.string ⟨#[]⟩],.str⟩:=⟨⟨.mk (by kernel_rfl) (by kernel_rfl),rfl⟩,.mk (by kernel_rfl),.mk (by kernel_rfl),.mk (by kernel_rfl)⟩
theorem BY:eN Tryz.prog 22 ⟨false,1,[.int .u32 0],.it .u32⟩:=⟨⟨.mk (by kernel_rfl) (by kernel_rfl),rfl⟩,.mk (by kernel_rfl),.mk (by kernel_rfl),.mk (by kernel_rfl)⟩
theorem BZ:eN Tryz.prog 23 ⟨false,1,[.slice none 0 0],.sl 22 1 4 (.int .u32 0)⟩:=⟨⟨.mk (by kernel_rfl) (by kernel_rfl),rfl⟩,.mk (by kernel_rfl),.mk (by kernel_rfl),⟨.mk (by kernel_rfl) (by kernel_rfl),.mk (by kernel_rfl) (by kernel_rfl) rfl (by decide)⟩⟩
theorem CA:eN Tryz.prog 25 ⟨false,1,[.int .i64 0],.it .i64⟩:=⟨⟨.mk (by kernel_rfl) (by kernel_rfl),rfl⟩,.mk (by kernel_rfl),.mk (by kernel_rfl),.mk (by kernel_rfl)⟩
theorem CB:eN Tryz.prog 28 ⟨false,1,[.slice none 0 0],.sl 5 1 1 (.int .u8 0)⟩:=⟨⟨.mk (by kernel_rfl) (by kernel_rfl),rfl⟩,.mk (by kernel_rfl),.mk (by kernel_rfl),⟨.mk (by kernel_rfl) (by kernel_rfl),.mk (by kernel_rfl) (by kernel_rfl) rfl (by decide)⟩⟩
theorem CC:eN Tryz.prog 39 ⟨false,1,[.slice none 0 0],.sl 23 1 24 (.slice none 0 0)⟩:=⟨⟨.mk (by kernel_rfl) (by kernel_rfl),rfl⟩,.mk (by kernel_rfl),.mk (by kernel_rfl),⟨.mk (by kernel_rfl) (by kernel_rfl),.mk (by kernel_rfl) (by kernel_rfl) rfl (by decide)⟩⟩
theorem CD:eN Tryz.prog 42 ⟨false,1,[.slice none 0 0],.sl 9 1 16 (.string ⟨#[]⟩)⟩:=⟨⟨.mk (by kernel_rfl) (by kernel_rfl),rfl⟩,.mk (by kernel_rfl),.mk (by kernel_rfl),⟨.mk (by kernel_rfl) (by kernel_rfl),.mk (by kernel_rfl) (by kernel_rfl) rfl (by decide)⟩⟩
theorem CE:eN Tryz.prog 44 ⟨true,2,[.bool false,.slice none 0 0],.st [(0,4,1),(1,23,1)]⟩:=⟨.mk (by kernel_rfl) (by kernel_rfl),.mk (by kernel_rfl),.mk (by kernel_rfl),⟨⟨.mk (by kernel_rfl),.mk (by kernel_rfl),⟨.mk (by kernel_rfl),.mk (by kernel_rfl),trivial⟩⟩,.mk (by kernel_rfl)⟩⟩
theorem CF:eN Tryz.prog 47 ⟨true,2,[.bool false,.slice none 0 0],.st [(0,4,1),(1,23,1)]⟩:=⟨.mk (by kernel_rfl) (by kernel_rfl),.mk (by kernel_rfl),.mk (by kernel_rfl),⟨⟨.mk (by kernel_rfl),.mk (by kernel_rfl),⟨.mk (by kernel_rfl),.mk (by kernel_rfl),trivial⟩⟩,.mk (by kernel_rfl)⟩⟩
theorem CG:eN Tryz.prog 69 ⟨false,1,[.slice none 0 0],.sl 2 1 8 (.int .i64 0)⟩:=⟨⟨.mk (by kernel_rfl) (by kernel_rfl),rfl⟩,.mk (by kernel_rfl),.mk (by kernel_rfl),⟨.mk (by kernel_rfl) (by kernel_rfl),.mk (by kernel_rfl) (by kernel_rfl) rfl (by decide)⟩⟩
theorem CH:eN Tryz.prog 71 ⟨false,1,[.slice none 0 0],.sl 44 2 32 (.agg #[.bool false,.slice none 0 0])⟩:=⟨⟨.mk (by kernel_rfl) (by kernel_rfl),rfl⟩,.mk (by kernel_rfl),.mk (by kernel_rfl),⟨.mk (by kernel_rfl) (by kernel_rfl),.mk (by kernel_rfl) (by kernel_rfl) rfl (by decide)⟩⟩
theorem CI:eN Tryz.prog 79 ⟨false,1,[.nilIface],.ot⟩:=⟨⟨.mk (by kernel_rfl) (by kernel_rfl),rfl⟩,.mk (by kernel_rfl),.mk (by kernel_rfl),trivial⟩
theorem CJ:eN Tryz.prog 85 ⟨false,1,[.int .u64 0],.it .u64⟩:=⟨⟨.mk (by kernel_rfl) (by kernel_rfl),rfl⟩,.mk (by kernel_rfl),.mk (by kernel_rfl),.mk (by kernel_rfl)⟩
theorem CK:eN Tryz.prog 87 ⟨true,9,[.int .u8 0,.int .u8 0,.int .u8 0,.int .u8 0,.int .u8 0,.int .u8 0,.int .u8 0,.int .u8 0,.int .u8 0],.ar 9 1⟩:=⟨.mk (by kernel_rfl) (by kernel_rfl),.mk (by kernel_rfl),.mk (by kernel_rfl),TyArr.mk2 5 (by kernel_rfl) (by kernel_rfl)⟩
theorem Zk:eN Tryz.prog 103 ⟨true,2,[.bool false,.slice none 0 0],.st [(0,44,2)]⟩:=⟨.mk (by kernel_rfl) (by kernel_rfl),.mk (by kernel_rfl),.mk (by kernel_rfl),⟨⟨.mk (by kernel_rfl),.mk (by kernel_rfl),trivial⟩,.mk (by kernel_rfl)⟩⟩
theorem Zl:eN Tryz.prog 105 ⟨false,1,[.int .u64 0],.it .u64⟩:=⟨⟨.mk (by kernel_rfl) (by kernel_rfl),rfl⟩,.mk (by kernel_rfl),.mk (by kernel_rfl),.mk (by kernel_rfl)⟩
theorem Zm:eN Tryz.prog 114 ⟨false,1,[.slice none 0 0],.sl 47 2 32 (.agg #[.bool false,.slice none 0 0])⟩:=⟨⟨.mk (by kernel_rfl) (by kernel_rfl),rfl⟩,.mk (by kernel_rfl),.mk (by kernel_rfl),⟨.mk (by kernel_rfl) (by kernel_rfl),.mk (by kernel_rfl) (by kernel_rfl) rfl (by decide)⟩⟩
theorem Zo:eN Tryz.prog 138 ⟨true,16,[.int .i64 0,.int .i64 0,.int .i64 0,.int .i64 0,.int .i64 0,.int .i64 0,.int .i64 0,.int .i64 0,.int .i64 0,.int .i64 0,.int .i64 0,.int .i64 0,.int .i64 0,.int .i64 0,.int .i64 0,.int .i64 0],.ar 16 1⟩:=⟨.mk (by kernel_rfl) (by kernel_rfl),.mk (by kernel_rfl),.mk (by kernel_rfl),TyArr.mk2 3 (by kernel_rfl) (by kernel_rfl)⟩
theorem Zp:eN Tryz.prog 142 ⟨false,1,[.slice none 0 0],.sl 3 1 8 (.int .i64 0)⟩:=⟨⟨.mk (by kernel_rfl) (by kernel_rfl),rfl⟩,.mk (by kernel_rfl),.mk (by kernel_rfl),⟨.mk (by kernel_rfl) (by kernel_rfl),.mk (by kernel_rfl) (by kernel_rfl) rfl (by decide)⟩⟩
theorem Zq:eN Tryz.prog 199 ⟨true,32,[.int .u8 0,.int .u8 0,.int .u8 0,.int .u8 0,.int .u8 0,.int .u8 0,.int .u8 0,.int .u8 0,.int .u8 0,.int .u8 0,.int .u8 0,.int .u8 0,.int .u8 0,.int .u8 0,.int .u8 0,.int .u8 0,.int .u8 0,.int .u8 0,.int .u8 0,.int .u8 0,.int .u8 0,.int .u8 0,.int .u8 0,.int .u8 0,.int .u8 0,.int .u8 0,.int .u8 0,.int .u8 0,.int .u8 0,.int .u8 0,.int .u8 0,.int .u8 0],.ar 32 1⟩:=⟨.mk (by kernel_rfl) (by kernel_rfl),.mk (by kernel_rfl),.mk (by kernel_rfl),TyArr.mk2 5 (by kernel_rfl) (by kernel_rfl)⟩
theorem Zr:eN Tryz.prog 200 ⟨true,64,[.int .u8 0,.int .u8 0,.int .u8 0,.int .u8 0,.int .u8 0,.int .u8 0,.int .u8 0,.int .u8 0,.int .u8 0,.int .u8 0,.int .u8 0,.int .u8 0,.int .u8 0,.int .u8 0,.int .u8 0,.int .u8 0,.int .u8 0,.int .u8 0,.int .u8 0,.int .u8 0,.int .u8 0,.int .u8 0,.int .u8 0,.int .u8 0,.int .u8 0,.int .u8 0,.int .u8 0,.int .u8 0,.int .u8 0,.int .u8 0,.int .u8 0,.int .u8 0,.int .u8 0,.int .u8 0,.int .u8 0,.int .u8 0,.int .u8 0,.int .u8 0,.int .u8 0,.int .u8 0,.int .u8 0,.int .u8 0,.int .u8 0,.int .u8 0,.int .u8 0,.int .u8 0,.int .u8 0,.int .u8 0,.int .u8 0,.int .u8 0,.int .u8 0,.int .u8 0,.int .u8 0,.int .u8 0,.int .u8 0,.int .u8 0,.int .u8 0,.int .u8 0,.int .u8 0,.int .u8 0,.int .u8 0,.int .u8 0,.int .u8 0,.int .u8 0],.ar 64 1⟩:=⟨.mk (by kernel_rfl) (by kernel_rfl),.mk (by kernel_rfl),.mk (by kernel_rfl),TyArr.mk2 5 (by kernel_rfl) (by kernel_rfl)⟩
def ttab:List (Nat×TI):=[(2,⟨false,1,[.int .i64 0],.it .i64⟩),
 (3,⟨false,1,[.int .i64 0],.it .i64⟩),
 (4,⟨false,1,[.bool false],.bl⟩),
 (5,⟨false,1,[.int .u8 0],.it .u8⟩),
 (9,⟨false,1,[.string ⟨#[]⟩],.str⟩),
 (22,⟨false,1,[.int .u32 0],.it .u32⟩),
 (23,⟨false,1,[.slice none 0 0],.sl 22 1 4 (.int .u32 0)⟩),
 (25,⟨false,1,[.int .i64 0],.it .i64⟩),
 (28,⟨false,1,[.slice none 0 0],.sl 5 1 1 (.int .u8 0)⟩),
 (39,⟨false,1,[.slice none 0 0],.sl 23 1 24 (.slice none 0 0)⟩),
 (42,⟨false,1,[.slice none 0 0],.sl 9 1 16 (.string ⟨#[]⟩)⟩),
 (44,⟨true,2,[.bool false,.slice none 0 0],.st [(0,4,1),(1,23,1)]⟩),
 (47,⟨true,2,[.bool false,.slice none 0 0],.st [(0,4,1),(1,23,1)]⟩),
 (69,⟨false,1,[.slice none 0 0],.sl 2 1 8 (.int .i64 0)⟩),
 (71,⟨false,1,[.slice none 0 0],.sl 44 2 32 (.agg #[.bool false,.slice none 0 0])⟩),
 (79,⟨false,1,[.nilIface],.ot⟩),
 (85,⟨false,1,[.int .u64 0],.it .u64⟩),
 (87,⟨true,9,[.int .u8 0,.int .u8 0,.int .u8 0,.int .u8 0,.int .u8 0,.int .u8 0,.int .u8 0,.int .u8 0,.int .u8 0],.ar 9 1⟩),
 (103,⟨true,2,[.bool false,.slice none 0 0],.st [(0,44,2)]⟩),
 (105,⟨false,1,[.int .u64 0],.it .u64⟩),
 (114,⟨false,1,[.slice none 0 0],.sl 47 2 32 (.agg #[.bool false,.slice none 0 0])⟩),
 (138,⟨true,16,[.int .i64 0,.int .i64 0,.int .i64 0,.int .i64 0,.int .i64 0,.int .i64 0,.int .i64 0,.int .i64 0,.int .i64 0,.int .i64 0,.int .i64 0,.int .i64 0,.int .i64 0,.int .i64 0,.int .i64 0,.int .i64 0],.ar 16 1⟩),
 (142,⟨false,1,[.slice none 0 0],.sl 3 1 8 (.int .i64 0)⟩),
 (199,⟨true,32,[.int .u8 0,.int .u8 0,.int .u8 0,.int .u8 0,.int .u8 0,.int .u8 0,.int .u8 0,.int .u8 0,.int .u8 0,.int .u8 0,.int .u8 0,.int .u8 0,.int .u8 0,.int .u8 0,.int .u8 0,.int .u8 0,.int .u8 0,.int .u8 0,.int .u8 0,.int .u8 0,.int .u8 0,.int .u8 0,.int .u8 0,.int .u8 0,.int .u8 0,.int .u8 0,.int .u8 0,.int .u8 0,.int .u8 0,.int .u8 0,.int .u8 0,.int .u8 0],.ar 32 1⟩),
 (200,⟨true,64,[.int .u8 0,.int .u8 0,.int .u8 0,.int .u8 0,.int .u8 0,.int .u8 0,.int .u8 0,.int .u8 0,.int .u8 0,.int .u8 0,.int .u8 0,.int .u8 0,.int .u8 0,.int .u8 0,.int .u8 0,.int .u8 0,.int .u8 0,.int .u8 0,.int .u8 0,.int .u8 0,.int .u8 0,.int .u8 0,.int .u8 0,.int .u8 0,.int .u8 0,.int .u8 0,.int .u8 0,.int .u8 0,.int .u8 0,.int .u8 0,.int .u8 0,.int .u8 0,.int .u8 0,.int .u8 0,.int .u8 0,.int .u8 0,.int .u8 0,.int .u8 0,.int .u8 0,.int .u8 0,.int .u8 0,.int .u8 0,.int .u8 0,.int .u8 0,.int .u8 0,.int .u8 0,.int .u8 0,.int .u8 0,.int .u8 0,.int .u8 0,.int .u8 0,.int .u8 0,.int .u8 0,.int .u8 0,.int .u8 0,.int .u8 0,.int .u8 0,.int .u8 0,.int .u8 0,.int .u8 0,.int .u8 0,.int .u8 0,.int .u8 0,.int .u8 0],.ar 64 1⟩)]
theorem aA:bO Tryz.prog ttab:=⟨DK,DL,DM,DN,DO,BY,BZ,CA,CB,CC,CD,CE,CF,CG,CH,CI,CJ,CK,Zk,Zl,Zm,Zo,Zp,Zq,Zr,trivial⟩
theorem Pm:CallOk Tryz.prog 5:=.mk Tryz.func5 (by decide) rfl
theorem DE:CallOk Tryz.prog 6:=.mk Tryz.func6 (by decide) rfl
theorem DP:CallOk Tryz.prog 9:=.mk Tryz.func9 (by decide) rfl
theorem Wi:CallOk Tryz.prog 14:=.mk Tryz.func14 (by decide) rfl
theorem fU:CallOk Tryz.prog 21:=.mk Tryz.func21 (by decide) rfl
theorem Ga:CallOk Tryz.prog 22:=.mk Tryz.func22 (by decide) rfl
theorem BD:CallOk Tryz.prog 23:=.mk Tryz.func23 (by decide) rfl
theorem Mv:CallOk Tryz.prog 24:=.mk Tryz.func24 (by decide) rfl
theorem BE:CallOk Tryz.prog 25:=.mk Tryz.func25 (by decide) rfl
theorem gK:CallOk Tryz.prog 26:=.mk Tryz.func26 (by decide) rfl
theorem cS:CallOk Tryz.prog 27:=.mk Tryz.func27 (by decide) rfl
theorem tG:CallOk Tryz.prog 28:=.mk Tryz.func28 (by decide) rfl
theorem tH:CallOk Tryz.prog 29:=.mk Tryz.func29 (by decide) rfl
theorem BF:CallOk Tryz.prog 30:=.mk Tryz.func30 (by decide) rfl
theorem Fu:CallOk Tryz.prog 31:=.mk Tryz.func31 (by decide) rfl
theorem zX:CallOk Tryz.prog 32:=.mk Tryz.func32 (by decide) rfl
theorem lR:CallOk Tryz.prog 33:=.mk Tryz.func33 (by decide) rfl
theorem eY:CallOk Tryz.prog 34:=.mk Tryz.func34 (by decide) rfl
theorem fT:CallOk Tryz.prog 35:=.mk Tryz.func35 (by decide) rfl
theorem kU:CallOk Tryz.prog 36:=.mk Tryz.func36 (by decide) rfl
theorem gL:CallOk Tryz.prog 37:=.mk Tryz.func37 (by decide) rfl
theorem nV:CallOk Tryz.prog 38:=.mk Tryz.func38 (by decide) rfl
theorem zY:CallOk Tryz.prog 39:=.mk Tryz.func39 (by decide) rfl
theorem wK:CallOk Tryz.prog 40:=.mk Tryz.func40 (by decide) rfl
theorem wF:CallOk Tryz.prog 41:=.mk Tryz.func41 (by decide) rfl
theorem Gd:CallOk Tryz.prog 42:=.mk Tryz.func42 (by decide) rfl
theorem Vo:CallOk Tryz.prog 43:=.mk Tryz.func43 (by decide) rfl
theorem CL:CallOk Tryz.prog 44:=.mk Tryz.func44 (by decide) rfl
theorem Vd:CallOk Tryz.prog 45:=.mk Tryz.func45 (by decide) rfl
theorem CM:CallOk Tryz.prog 46:=.mk Tryz.func46 (by decide) rfl
theorem Wj:CallOk Tryz.prog 48:=.mk Tryz.func48 (by decide) rfl
theorem Gt:CallOk Tryz.prog 49:=.mk Tryz.func49 (by decide) rfl
theorem wY:CallOk Tryz.prog 50:=.mk Tryz.func50 (by decide) rfl
theorem Gu:CallOk Tryz.prog 51:=.mk Tryz.func51 (by decide) rfl
theorem CN:CallOk Tryz.prog 56:=.mk Tryz.func56 (by decide) rfl
theorem CO:CallOk Tryz.prog 57:=.mk Tryz.func57 (by decide) rfl
theorem CP:CallOk Tryz.prog 58:=.mk Tryz.func58 (by decide) rfl
theorem CQ:CallOk Tryz.prog 59:=.mk Tryz.func59 (by decide) rfl
theorem CS:CallOk Tryz.prog 67:=.mk Tryz.func67 (by decide) rfl
theorem CT:CallOk Tryz.prog 68:=.mk Tryz.func68 (by decide) rfl
theorem kE:CallOk Tryz.prog 69:=.mk Tryz.func69 (by decide) rfl
theorem zM:CallOk Tryz.prog 70:=.mk Tryz.func70 (by decide) rfl
theorem Fx:CallOk Tryz.prog 71:=.mk Tryz.func71 (by decide) rfl
theorem cN:CallOk Tryz.prog 72:=.mk Tryz.func72 (by decide) rfl
theorem cC:CallOk Tryz.prog 73:=.mk Tryz.func73 (by decide) rfl
theorem Fv:CallOk Tryz.prog 74:=.mk Tryz.func74 (by decide) rfl
theorem jG:CallOk Tryz.prog 75:=.mk Tryz.func75 (by decide) rfl
theorem BB:CallOk Tryz.prog 76:=.mk Tryz.func76 (by decide) rfl
theorem Nx:CallOk Tryz.prog 77:=.mk Tryz.func77 (by decide) rfl
theorem Wk:CallOk Tryz.prog 78:=.mk Tryz.func78 (by decide) rfl
theorem Wl:CallOk Tryz.prog 79:=.mk Tryz.func79 (by decide) rfl
theorem Wm:CallOk Tryz.prog 80:=.mk Tryz.func80 (by decide) rfl
theorem BG:CallOk Tryz.prog 81:=.mk Tryz.func81 (by decide) rfl
theorem BH:CallOk Tryz.prog 82:=.mk Tryz.func82 (by decide) rfl
theorem Gb:CallOk Tryz.prog 83:=.mk Tryz.func83 (by decide) rfl
theorem Vh:CallOk Tryz.prog 84:=.mk Tryz.func84 (by decide) rfl
theorem BI:CallOk Tryz.prog 85:=.mk Tryz.func85 (by decide) rfl
theorem Vj:CallOk Tryz.prog 86:=.mk Tryz.func86 (by decide) rfl
theorem BJ:CallOk Tryz.prog 87:=.mk Tryz.func87 (by decide) rfl
theorem BK:CallOk Tryz.prog 88:=.mk Tryz.func88 (by decide) rfl
theorem BL:CallOk Tryz.prog 89:=.mk Tryz.func89 (by decide) rfl
theorem Vm:CallOk Tryz.prog 90:=.mk Tryz.func90 (by decide) rfl
theorem Gc:CallOk Tryz.prog 91:=.mk Tryz.func91 (by decide) rfl
theorem Mx:CallOk Tryz.prog 92:=.mk Tryz.func92 (by decide) rfl
theorem BC:CallOk Tryz.prog 93:=.mk Tryz.func93 (by decide) rfl
theorem mA:CallOk Tryz.prog 119:=.mk Tryz.func119 (by decide) rfl
theorem jR:CallOk Tryz.prog 120:=.mk Tryz.func120 (by decide) rfl
theorem uH:CallOk Tryz.prog 121:=.mk Tryz.func121 (by decide) rfl
theorem Zs:CallOk Tryz.prog 122:=.mk Tryz.func122 (by decide) rfl
theorem Gv:CallOk Tryz.prog 123:=.mk Tryz.func123 (by decide) rfl
theorem Ps:CallOk Tryz.prog 125:=.mk Tryz.func125 (by decide) rfl
theorem sG:CallOk Tryz.prog 126:=.mk Tryz.func126 (by decide) rfl
theorem dQ:CallOk Tryz.prog 127:=.mk Tryz.func127 (by decide) rfl
theorem Pt:CallOk Tryz.prog 128:=.mk Tryz.func128 (by decide) rfl
theorem Pu:CallOk Tryz.prog 129:=.mk Tryz.func129 (by decide) rfl
theorem Pv:CallOk Tryz.prog 146:=.mk Tryz.func146 (by decide) rfl
theorem vG:CallOk Tryz.prog 147:=.mk Tryz.func147 (by decide) rfl
theorem Zt:CallOk Tryz.prog 148:=.mk Tryz.func148 (by decide) rfl
theorem Zu:CallOk Tryz.prog 149:=.mk Tryz.func149 (by decide) rfl
theorem Zw:CallOk Tryz.prog 158:=.mk Tryz.func158 (by decide) rfl
theorem mixed:Tryz.prog.follows .mixedOrders=true:=by kernel_rfl
section
variable {x:Cx}{g:Nat→FV}{ob ob':List (Option Ob)}{Q:Post}{ops:Array Oper}{rest:List Oper}{d:Nat}{op:Op}{ty:TypeId}{pos:String}{af:Array Edge}{gd:Option (Nat×Bool)}{C:Prop}{v:FV}
theorem o1 (k:WL x ops rest (aR g d v) ob Q) (hT:bO x.P ttab:=by exact aA) (hw:aQ ops x.n g gd=some true:=by rfl) (h:qE ttab x.n g op=some (C,v):=by rfl) (hC:C:=by first | trivial | omega | (simp only[eQ];omega)):WL x ops (⟨some d,op,ty,pos,af,gd⟩::rest) g ob Q:=DF hT hw h hC k
theorem ld {t:Nat}{i:TI}{a:Operand}(k:WL x ops rest (aR g d v) ob Q) (hT:bO x.P ttab:=by exact aA) (hw:aQ ops x.n g gd=some true:=by rfl) (hi:aX ttab t=some i:=by rfl) (h:mX ob i (lk x.n g a)=some (C,v):=by rfl):WL x ops (⟨some d,.load t a,ty,pos,af,gd⟩::rest) g ob Q:=Nv hT hw hi h k
theorem iT {t:Nat}{i:TI}{a:Operand}{l:List Tr}{of:Nat}(us:List Tr) (hl:(l.drop of).take us.length=us) (k:WL x ops rest (aR g d v) ob Q) (hT:bO x.P ttab:=by exact aA) (hw:aQ ops x.n g gd=some true:=by rfl) (hi:aX ttab t=some i:=by rfl) (h:lk x.n g a=.one (.ef l of):=by rfl) (hv:Ad i us=some v:=by rfl):WL x ops (⟨some d,.load t a,ty,pos,af,gd⟩::rest) g ob Q:=Zh hT hw hi h hl hv k
theorem al {t:Nat}(key:Nat) (k:WL x ops rest (aR g d (.one (.pt key 0))) ob' Q) (hT:bO x.P ttab:=by exact aA) (hw:aQ ops x.n g gd=some true:=by rfl) (h:wQ ttab t key ob=some ob':=by rfl):WL x ops (⟨some d,.alloc t,ty,pos,af,gd⟩::rest) g ob Q:=BT hT hw h k
theorem bx {t:Nat}{a:Operand}(key:Nat) (k:WL x ops rest (aR g d (.one (.pt key 0))) ob' Q) (hw:aQ ops x.n g gd=some true:=by rfl) (h:Gk t key (lk x.n g a) ob=some ob':=by rfl):WL x ops (⟨some d,.box t a,ty,pos,af,gd⟩::rest) g ob Q:=BU hw h k
theorem st {t:Nat}{i:TI}{a b:Operand}(k:WL x ops rest g ob' Q) (hT:bO x.P ttab:=by exact aA) (hw:aQ ops x.n g gd=some true:=by rfl) (hi:aX ttab t=some i:=by rfl) (h:tO i ob (lk x.n g b) (lk x.n g a)=some ob':=by rfl):WL x ops (⟨none,.store t a b,ty,pos,af,gd⟩::rest) g ob Q:=BV hT hw hi h k
theorem bs {t len:Nat}{ps:Array (Nat×Operand)}(key:Nat) (k:WL x ops rest (aR g d (.one (.sl key 0 len))) ob' Q) (hT:bO x.P ttab:=by exact aA) (hw:aQ ops x.n g gd=some true:=by rfl) (h:wW ttab x.n g t len key ps.toList ob=some ob':=by rfl):WL x ops (⟨some d,.buildSlice t len ps,ty,pos,af,gd⟩::rest) g ob Q:=BW hT hw h k
theorem cW {o:Oper}(k:WL x ops rest (aR g d (.one (tv undef))) ob Q) (hw:aQ ops x.n g o.guard=some false:=by rfl) (hd:o.dst=some d:=by rfl):WL x ops (o::rest) g ob Q:=BS hw hd k
theorem ca {fresh:Bool}{f:FuncId}{args:List FV}{r:FV}{aa:Array Operand}{ats:Array TypeId}(hS:aL fresh x.P f [] args (aU r)) (hf:CallOk x.P f) (ha:AL fresh x g ob aa.toList args) (v:FV) (k:WL x ops rest (aR g d v) ob Q) (hw:aQ ops x.n g gd=some true:=by rfl) (hv:sQ r=v:=by rfl):
  WL x ops (⟨some d,.call ⟨.value (.func f),aa,ats⟩,ty,pos,af,gd⟩::rest) g ob Q:=We hw hS hf ha hv k
variable {late:Nat→Bool}{K fr:List Nat}{on:Bool}{fuel:Nat}{listed:Array Bool}
theorem dv (i:Nat) (k:WD x ops Q late K fr true fuel (listed.setIfInBounds i true) (aR g d v) ob) (hT:bO x.P ttab:=by exact aA) (hi:ops[i]? =some ⟨some d,op,ty,pos,af,gd⟩:=by rfl) (hst:iW ops late listed i=true:=by kernel_rfl) (hw:aQ ops x.n g gd=some true:=by rfl) (h:qE ttab x.n (kA fr g) op=some (C,v):=by rfl) (hC:C:=by first | trivial | omega | (simp only[eQ];omega)) (hg:qE ttab x.n g op=some (C,v):=by rfl):WD x ops Q late K fr true (fuel+1) listed g ob:=dt i hT hi hst hw h hC hg k
theorem df (i:Nat) (k:WD x ops Q late K (d::fr) true fuel (listed.setIfInBounds i true) (aR g d v) ob) (hT:bO x.P ttab:=by exact aA) (hi:ops[i]? =some ⟨some d,op,ty,pos,af,gd⟩:=by rfl) (hst:iW ops late listed i=true:=by kernel_rfl) (hw:aQ ops x.n g gd=some true:=by rfl) (h:qE ttab x.n g op=some (C,v):=by rfl) (hC:C:=by first | trivial | omega | (simp only[eQ];omega)):WD x ops Q late K fr true (fuel+1) listed g ob:=DG i hT hi hst hw h hC k
theorem aK {t:Nat}{ti:TI}{a:Operand}{key off:Nat}(i:Nat) (k:WD x ops Q late K fr true fuel (listed.setIfInBounds i true) (aR g d v) ob) (hT:bO x.P ttab:=by exact aA) (hi:ops[i]? =some ⟨some d,.load t a,ty,pos,af,gd⟩:=by rfl) (hst:iW ops late listed i=true:=by kernel_rfl) (hw:aQ ops x.n g gd=some true:=by rfl) (hti:aX ttab t=some ti:=by rfl) (hlk:lk x.n g a=.one (.pt key off):=by rfl) (hK:K.contains key=true:=by rfl) (h:mX ob ti (.one (.pt key off))=some (C,v):=by rfl):WD x ops Q late K fr true (fuel+1) listed g ob:=dl i hT hi hst hw hti hlk hK h k
theorem gD {t:Nat}{ti:TI}{a:Operand}{l:List Tr}{of:Nat}(i:Nat) (us:List Tr) (hl:(l.drop of).take us.length=us) (k:WD x ops Q late K fr true fuel (listed.setIfInBounds i true) (aR g d v) ob) (hT:bO x.P ttab:=by exact aA) (hi:ops[i]? =some ⟨some d,.load t a,ty,pos,af,gd⟩:=by rfl) (hst:iW ops late listed i=true:=by kernel_rfl) (hw:aQ ops x.n g gd=some true:=by rfl) (hti:aX ttab t=some ti:=by rfl) (hlk:lk x.n (kA fr g) a=.one (.ef l of):=by rfl) (hv:Ad ti us=some v:=by rfl):WD x ops Q late K fr true (fuel+1) listed g ob:=DH i hT hi hst hw hti hlk hl hv k
theorem eG (i:Nat) (k:WD x ops Q late K fr true fuel (listed.setIfInBounds i true) (aR g d (.one (tv undef))) ob) (hi:ops[i]? =some ⟨some d,op,ty,pos,af,gd⟩:=by rfl) (hst:iW ops late listed i=true:=by kernel_rfl) (hw:aQ ops x.n g gd=some false:=by rfl):WD x ops Q late K fr true (fuel+1) listed g ob:=dn i hi hst hw k
theorem aD {fresh:Bool}{f:FuncId}{args:List FV}{r:FV}{aa:Array Operand}{ats:Array TypeId}(i:Nat) (hi:ops[i]? =some ⟨some d,.call ⟨.value (.func f),aa,ats⟩,ty,pos,af,gd⟩) (hS:aL fresh x.P f [] args (aU r)) (hf:CallOk x.P f) (ha:AL fresh x g ob aa.toList args) (v:FV) (k:WD x ops Q late K (d::fr) true fuel (listed.setIfInBounds i true) (aR g d v) ob) (hr:Region.ready .any ops listed=[i]:=by kernel_rfl) (hw:aQ ops x.n g gd=some true:=by rfl) (hv:sQ r=v:=by rfl):WD x ops Q late K fr true (fuel+1) listed g ob:=Wg i hr hi hw hS hf ha hv k
theorem cP {fresh:Bool}{f:FuncId}{args:List FV}{r:FV}{aa:Array Operand}{ats:Array TypeId}(i:Nat) (hi:ops[i]? =some ⟨some d,.call ⟨.value (.func f),aa,ats⟩,ty,pos,af,gd⟩) (hS:aL fresh x.P f [] args (aU r)) (hf:CallOk x.P f) (ha:AL fresh x g ob aa.toList args) (v:FV) (k:WD x ops Q late K (d::fr) true fuel (listed.setIfInBounds i true) (aR g d v) ob) (hw:aQ ops x.n g gd=some true:=by rfl) (hv:sQ r=v:=by rfl):WO x ops Q late K fr true fuel listed i g ob:=Wh i hi hw hS hf ha hv k
theorem dst {t:Nat}{ti:TI}{a b:Operand}(i:Nat) (k:WD x ops Q late K fr false fuel (listed.setIfInBounds i true) g ob') (hT:bO x.P ttab:=by exact aA) (hr:Region.ready .any ops listed=[i]:=by kernel_rfl) (hi:ops[i]? =some ⟨none,.store t a b,ty,pos,af,gd⟩:=by rfl) (hw:aQ ops x.n g gd=some true:=by rfl) (hti:aX ttab t=some ti:=by rfl) (h:tO ti ob (lk x.n g b) (lk x.n g a)=some ob':=by rfl) (hl:late i=true:=by rfl):WD x ops Q late K fr on (fuel+1) listed g ob:=BX i hr hi hw hT hti h hl k
theorem hH {fresh:Bool}{f:FuncId}{args:List FV}{r:FV}{os:List Ob}{aa:Array Operand}{ats:Array TypeId}(key:Nat) (hS:aL fresh x.P f [] args (aU r)) (hf:CallOk x.P f) (ha:AL fresh x g ob aa.toList args) (k:WL x ops rest (aR g d v) (ob++os.map some) Q) (hw:aQ ops x.n g gd=some true:=by rfl) (hk:dT ob key=true:=by rfl) (hb:lO key r=some (v,os):=by rfl):
  WL x ops (⟨some d,.call ⟨.value (.func f),aa,ats⟩,ty,pos,af,gd⟩::rest) g ob Q:=Rp hw hS hf ha hk hb k
theorem lY {fresh:Bool}{f:FuncId}{args:List FV}{r:FV}{os:List Ob}{aa:Array Operand}{ats:Array TypeId}(key i:Nat) (hi:ops[i]? =some ⟨some d,.call ⟨.value (.func f),aa,ats⟩,ty,pos,af,gd⟩) (hS:aL fresh x.P f [] args (aU r)) (hf:CallOk x.P f) (ha:AL fresh x g ob aa.toList args) (k:WD x ops Q late K (d::fr) true fuel (listed.setIfInBounds i true) (aR g d v) (ob++os.map some)) (hr:Region.ready .any ops listed=[i]:=by kernel_rfl) (hw:aQ ops x.n g gd=some true:=by rfl) (hk:dT ob key=true:=by rfl) (hb:lO key r=some (v,os):=by rfl) (hK:Wf K ob=true:=by rfl):WD x ops Q late K fr true (fuel+1) listed g ob:=Rq i hr hi hw hS hf ha hk hb hK k
theorem aP (h:Q .normal g ob) (hr:Region.ready .any ops listed=[]:=by kernel_rfl):WD x ops Q late K fr on fuel listed g ob:=dz hr h
end
theorem Js {β:Type}:∀{o:Nat}{l:List AV}{a:AV}{r:List AV}{k:List AV→Option β},l.drop o=a::r→dp o l k=k (a::r)
 | 0,l,a,r,k,h=>by rw[List.drop_zero]at h;subst h;rfl
 | o+1,[],a,r,k,h=>by simp at h
 | o+1,b::l,a,r,k,h=>by
  rw[List.drop_succ_cons]at h
  exact Js (o:=o) h
theorem Aw {ob:List (Option Ob)}{i:TI}{k o t z:Nat}{l:List AV}{a:AV}(ho:bT ob k=some ⟨t,z,l⟩) (hx:l[o]? =some a) (ha:i.agg=false) (hr:lM a=true):mX ob i (.one (.pt k o))=some (True,.one a):=by
 obtain⟨h1,h2⟩:=List.getElem?_eq_some_iff.1 hx
 have h3:l.drop o=a::l.drop (o+1):=by rw[List.drop_eq_getElem_cons h1,h2]
 unfold mX
 dsimp only
 rw[ho]
 dsimp only
 unfold Nr
 rw[Js h3,ha]
 simp[wO,fD,hr,ev]
section
variable {x:Cx}{g:Nat→FV}{ob ob':List (Option Ob)}{Q:Post}{ops:Array Oper}{rest:List Oper}{d:Nat}{ty:TypeId}{pos:String}{af:Array Edge}{gd:Option (Nat×Bool)}{T:List (Nat×TI)}
theorem Zx {t e by_ k m:Nat}{ti:Bool}{ts0:Nat}{z0:List Value}{kk k1 k2:IntKind}{a b:Operand}(hT:bO x.P T) (ht:aX T t=some ⟨ti,ts0,z0,.sl e 1 by_ (.int kk 0)⟩) (ha:lk x.n g a=.one (tv (.int k1 (m:Int)))) (hb:lk x.n g b=.one (tv (.int k2 (m:Int)))) (hby:by_≤16) (hm:m≤8796093022208) (hk:dT ob k=true):
  OS x ⟨some d,.makeSlice t a b,ty,pos,af,gd⟩ g ob [] (fun g' ob2=>g'=aR g d (.one (.sl k 0 m))∧ob2=ob++[some ⟨e,1,(List.replicate m (Value.int kk 0)).map tv⟩]):=by
 obtain⟨_,hel⟩:=(cH hT ht).2.2.2
 obtain⟨hu,i,hi,hz,hsize,hby',hzs,hsz⟩:=hel
 subst hby'
 have hk:=Nat.eq_of_beq_eq_true hk
 subst hk
 intro cs ts W hR K Q' kk'
 have e1:=hR.lk a
 rw[ha]at e1
 have e1:=aO e1
 have e2:=hR.lk b
 rw[hb]at e2
 have e2:=aO e2
 have hmul:i.bytes*m≤16*8796093022208:=Nat.mul_le_mul hby hm
 obtain⟨w',hrun,h1,h2⟩:=run_make_full (P:=x.P) W 0 t e i (.int kk 0) 1 hu hi hz hsize k1 k2 m (by omega) (by unfold maxLen;omega) (Nat.zero_le _)
 have hrun':(execOp (Act.eval ⟨ts,[]⟩) ⟨some d,.makeSlice t a b,ty,pos,af,gd⟩).run x.P W=.ok (.value (.slice (some ⟨W.heap.size,0,none⟩) m m)) w':=by
  simp[execOp,e1,e2,hrun]
 have e0:(madeCells (Value.int kk 0).cells (m*1)).toList=List.replicate m (.int kk 0):=by
  rw[Nat.mul_one]
  show(madeCells #[Value.int kk 0] m).toList=_
  rw[toList_madeCells_one]
 rw[e0]at h1
 generalize hus:List.replicate m (Value.int kk 0)=us at h1 kk'
 have hbl:Below W.heap.size W w':=(Below.refl _ _).grown h2 (Nat.le_refl _) (fun k hk=>by cases hk)
 rcases h1.2 with⟨hh,_⟩ | ⟨g1,cap,cur,hv,_,hg,hnc,hcm,hcs,htake⟩
 ·injection hh with h3;cases h3
 injection hv with q1 q2 q3
 injection q1 with q1
 injection q1 with q1
 subst q1 q3
 have hlt:W.heap.size<w'.heap.size:=(Array.getElem?_eq_some_iff.1 hg).1
 have hcur:cur.toList=us:=by
  have h9:cur.toList.length=m*1:=by simpa using hcs
  rw[←htake,List.take_of_length_le (by omega)]
 have hS:∀b∈(aI (some ⟨e,1,us.map tv⟩) ⟨some W.heap.size,m,us.map .w⟩).S,W.heap.size≤b∧b<w'.heap.size:=by
  intro b hb
  simp[aI,jZ]at hb
  subst hb
  exact⟨Nat.le_refl _,hlt⟩
 have hown:∀b∈cE (ob++[some ⟨e,1,us.map tv⟩]) (cs++[⟨some W.heap.size,m,us.map .w⟩]),b∈cE ob cs∨W.heap.size≤b:=by
  intro b hb
  unfold cE aE at hb
  rw[List.zipWith_append hR.len,List.flatMap_append,List.mem_append]at hb
  rcases hb with hb | hb
  ·exact .inl hb
  exact .inr (hS b (by simpa using hb)).1
 have m1:RelC x g (ob++[some ⟨e,1,us.map tv⟩]) (cs++[⟨some W.heap.size,m,us.map .w⟩]) ts w':=by
  refine hR.push hbl _ _ ?_ hS (by simp[aI,jZ]) ?_ (fun e=>by cases e)
  ·have hul:us.length=m:=by rw[←hus,List.length_replicate]
   simp only[aI,pN]
   refine⟨⟨[],?_,by simp[hul]⟩,pL _,hcm⟩
   rw[List.append_nil,hg,←hcur]
  exact oM (jW _) (qU _)
 refine dB hrun' (kk' _ _ _ _ _ ⟨rfl,rfl⟩ (m1.put d ?_) ((Aft.mk .app (fun k _ hk=>jX hk) hbl.size (fun b hlt _=>hbl.block b hlt) hown (fun _ _=>rfl):Aft [] (some d) ob cs ts W _ _ ts w').then_put _))
 refine eI ?_
 simp only[AR]
 rw[hR.len,fL]
 exact⟨by simp[hR.len],0,m,rfl,Nat.le_refl _,hcm,fun _=>rfl,fun _=>rfl⟩
inductive FzN (key:Nat):List AV→List AV→Prop
 | nil:FzN key [] []
 | id {a:AV}{l l':List AV}(h:FzN key l l'):FzN key (a::l) (a::l')
 | sl {l l':List AV}(h:FzN key l l'):FzN key (tv (.slice none 0 0)::l) (.sl key 0 0::l')
theorem FzN.ok {key:Nat}{W:World}{N:Nat→Prop}{cs:List Co}(hk:key<cs.length) (hb:(co cs key).b=none):∀{l l':List AV},FzN key l l'→∀{ys:List VT},bB W N cs l ys→bB W N cs l' ys
 | _,_,.nil,ys,h=>h
 | _,_,.id h',[],h=>by simp only[bB]at h
 | _,_,.id h',y::ys,h=>by
  simp only[bB]at h⊢
  exact⟨h.1,FzN.ok hk hb h' h.2⟩
 | _,_,.sl h',[],h=>by simp only[bB]at h
 | _,_,.sl h',y::ys,h=>by
  simp only[bB]at h⊢
  refine⟨?_,FzN.ok hk hb h' h.2⟩
  have h1:=h.1
  simp only[tv,CR,OR]at h1
  subst h1
  simp only[CR,AR,hb]
  exact⟨hk,trivial,trivial,trivial⟩
theorem FzN.nl {key:Nat}:∀{l l':List AV},FzN key l l'→(l=[]↔l'=[])
 | _,_,.nil=>Iff.rfl
 | _,_,.id h'=>by simp
 | _,_,.sl h'=>by simp
theorem mk {t e by_ m:Nat}{ti:Bool}{ts0:Nat}{z0:List Value}{kk k1 k2:IntKind}{a b:Operand}(key:Nat) (hm:m≤8796093022208){l:List AV}(hl:(List.replicate m (Value.int kk 0)).map tv=l) (k:WL x ops rest (aR g d (.one (.sl key 0 m))) (ob++[some ⟨e,1,l⟩]) Q) (hT:bO x.P ttab:=by exact aA) (hw:aQ ops x.n g gd=some true:=by rfl)
  (ht:aX ttab t=some ⟨ti,ts0,z0,.sl e 1 by_ (.int kk 0)⟩:=by rfl) (ha:lk x.n g a=.one (tv (.int k1 (m:Int))):=by rfl) (hb:lk x.n g b=.one (tv (.int k2 (m:Int))):=by rfl) (hby:by_≤16:=by decide) (hk:dT ob key=true:=by rfl):WL x ops (⟨some d,.makeSlice t a b,ty,pos,af,gd⟩::rest) g ob Q:=by
 subst hl
 exact fO (Zx hT ht ha hb hby hm hk) hw (by rintro _ _ ⟨rfl,rfl⟩;exact k)
theorem Wn {t key o t' z':Nat}{ti:TI}{a:Operand}{l:List AV}{v:AV}(hx:l[o]? =some v) (k:WL x ops rest (aR g d (.one v)) ob Q) (hT:bO x.P ttab:=by exact aA) (hw:aQ ops x.n g gd=some true:=by rfl) (hti:aX ttab t=some ti:=by rfl) (hlk:lk x.n g a=.one (.pt key o):=by rfl) (ho:bT ob key=some ⟨t',z',l⟩:=by rfl) (ha:ti.agg=false:=by rfl) (hr:lM v=true:=by rfl):
  WL x ops (⟨some d,.load t a,ty,pos,af,gd⟩::rest) g ob Q:=Nv hT hw hti (by rw[hlk];exact Aw ho hx ha hr) k
theorem uI {t key o t' z':Nat}{ti:TI}{a b:Operand}{l l' us:List AV}(hl:dJ l o us=l') (hle:o+us.length≤l.length) (k:WL x ops rest g (ob.set key (some ⟨t',z',l'⟩)) Q) (hT:bO x.P ttab:=by exact aA) (hw:aQ ops x.n g gd=some true:=by rfl) (hti:aX ttab t=some ti:=by rfl) (hlk:lk x.n g a=.one (.pt key o):=by rfl) (ho:bT ob key=some ⟨t',z',l⟩:=by rfl)
  (hb:qT (lk x.n g b)=some us:=by rfl) (hlo:dL us=true:=by rfl) (hsz:Nat.beq us.length ti.size=true:=by rfl):WL x ops (⟨none,.store t a b,ty,pos,af,gd⟩::rest) g ob Q:=
 fO (vC hT hti hlk hb hlo hsz ho hle hl) hw (by rintro _ _ ⟨rfl,rfl⟩;exact k)
variable {late:Nat→Bool}{K fr:List Nat}{on:Bool}{fuel:Nat}{listed:Array Bool}
theorem CU {t key o t' z':Nat}{ti:TI}{a:Operand}{l:List AV}{v:AV}(i:Nat) (hx:l[o]? =some v) (k:WD x ops Q late K fr true fuel (listed.setIfInBounds i true) (aR g d (.one v)) ob) (hT:bO x.P ttab:=by exact aA) (hi:ops[i]? =some ⟨some d,.load t a,ty,pos,af,gd⟩:=by rfl) (hst:iW ops late listed i=true:=by kernel_rfl) (hw:aQ ops x.n g gd=some true:=by rfl) (hti:aX ttab t=some ti:=by rfl)
  (hlk:lk x.n g a=.one (.pt key o):=by rfl) (hK:K.contains key=true:=by rfl) (ho:bT ob key=some ⟨t',z',l⟩:=by rfl) (ha:ti.agg=false:=by rfl) (hr:lM v=true:=by rfl):WD x ops Q late K fr true (fuel+1) listed g ob:=dl i hT hi hst hw hti hlk hK (Aw ho hx ha hr) k
theorem Ny {t key o t' z':Nat}{ti:TI}{a b:Operand}{l l' us:List AV}(i:Nat) (hl:dJ l o us=l') (hle:o+us.length≤l.length) (k:WD x ops Q late K fr false fuel (listed.setIfInBounds i true) g (ob.set key (some ⟨t',z',l'⟩))) (hT:bO x.P ttab:=by exact aA) (hr:Region.ready .any ops listed=[i]:=by kernel_rfl) (hi:ops[i]? =some ⟨none,.store t a b,ty,pos,af,gd⟩:=by rfl) (hw:aQ ops x.n g gd=some true:=by rfl) (hti:aX ttab t=some ti:=by rfl)
  (hlk:lk x.n g a=.one (.pt key o):=by rfl) (ho:bT ob key=some ⟨t',z',l⟩:=by rfl) (hb:qT (lk x.n g b)=some us:=by rfl) (hlo:dL us=true:=by rfl) (hsz:Nat.beq us.length ti.size=true:=by rfl) (hlate:late i=true:=by rfl):WD x ops Q late K fr on (fuel+1) listed g ob:=by
 refine Ag i hr hi hw (vC (ty:=ty) (pos:=pos) (af:=af) (gd:=gd) hT hti hlk hb hlo hsz ho hle hl) false (fun h=>by cases h) (fun h=>by rw[hlate]at h;cases h) (fun h=>by cases h) fun g' ob' hR=>?_
 obtain⟨rfl,rfl⟩:=hR
 exact k
end
theorem Loc.cut {M:List Nat}{w W:World}{L L':List Res}{F:List Sh}(h:Loc M w W L F) (hc:∀b,(L'.flatMap Res.S).count b≤(L.flatMap Res.S).count b) (hφ:∀r∈L',r.φ W):Loc M w W L' F:=by
 have hin:∀b,b∈L'.flatMap Res.S→b∈L.flatMap Res.S:=fun b hb=>List.count_pos_iff.1 (Nat.lt_of_lt_of_le (List.count_pos_iff.2 hb) (hc b))
 exact⟨h.chg,hφ,fun b hb=>h.blk b (hin b hb),List.nodup_iff_count.2 fun b=>Nat.le_trans (hc b) (List.nodup_iff_count.1 h.nd b),fun q hq=>q.mono _ _ _ (fun b hb=>⟨hb.1,fun hm=>hb.2 (hin b hm)⟩) (h.shr q hq)⟩
theorem wZ {y y':VT}(b:Nat):∀{l:List VT}{p:Nat},l[p]? =some y→(VT.fpL (l.set p y')).count b+y.fp.count b=(VT.fpL l).count b+y'.fp.count b
 | [],_,h=>by simp at h
 | z::l,0,h=>by
  simp at h
  subst h
  simp only[List.set_cons_zero,VT.fpL,List.count_append]
  omega
 | z::l,p+1,h=>by
  have:=wZ (y':=y') b (l:=l) (p:=p) (by simpa using h)
  simp only[List.set_cons_succ,VT.fpL,List.count_append]
  omega
theorem xA {W:World}{y':VT}(hy:y'.ok W):∀{l:List VT}{p:Nat},VT.okL W l→VT.okL W (l.set p y')
 | [],_,h=>by simpa using h
 | z::l,0,h=>by
  simp only[VT.okL]at h
  simp only[List.set_cons_zero,VT.okL]
  exact⟨hy,h.2⟩
 | z::l,p+1,h=>by
  simp only[VT.okL]at h
  simp only[List.set_cons_succ,VT.okL]
  exact⟨h.1,xA hy h.2⟩
theorem Ei {y y':VT}(hv:y'.val=y.val){l:List VT}{p:Nat}(h:l[p]? =some y):(l.set p y').map VT.val=l.map VT.val:=by
 rw[List.map_set,hv]
 apply List.ext_getElem?
 intro j
 rw[List.getElem?_set]
 split
 ·rename_i e
  subst e
  obtain⟨h1,h2⟩:=List.getElem?_eq_some_iff.1 h
  simp[h1,h2]
 rfl
theorem sH {W:World}{N:Nat→Prop}{cs:List Co}{a:AV}{y:VT}(ha:CR W N cs a y):∀{l:List AV}{ys:List VT}{p:Nat},bB W N cs l ys→bB W N cs (l.set p a) (ys.set p y)
 | [],ys,p,h=>by
  simp only[bB]at h
  subst h
  simp[bB]
 | b::l,[],p,h=>by simp only[bB]at h
 | b::l,z::ys,0,h=>by
  simp only[bB]at h
  simp only[List.set_cons_zero,bB]
  exact⟨ha,h.2⟩
 | b::l,z::ys,p+1,h=>by
  simp only[bB]at h
  simp only[List.set_cons_succ,bB]
  exact⟨h.1,sH ha h.2⟩
section
variable {x:Cx}{g g':Nat→FV}{ob ob':List (Option Ob)}{cs cs':List Co}{ts ts':Array Value}{W W':World}{T:List (Nat×TI)}{Q:Post}{ops:Array Oper}{rest:List Oper}
theorem Same.set {k:Nat}{c:Co}(hk:k<cs.length) (hb:c.b=(co cs k).b) (hc:c.c=(co cs k).c):Same cs (cs.set k c):=⟨by simp,fun j hj=>by
 rw[jC hk]
 split
 ·rename_i e
  subst e
  exact⟨hb,hc⟩
 exact⟨rfl,rfl⟩⟩
theorem CV {j key p t' z':Nat}{l l':List AV}{q:Tr}{a':AV}{o:Ob}(hk:dT ob key=true) (hb9:rE key (.t q)=some (a',[o])) (hcr:∀{W:World}{N:Nat→Prop}{cs:List Co}{u:Value},AR W N cs a' u→CR W N cs a' (.w u)) (ho:bT ob j=some ⟨t',z',l⟩) (hp:l[p]? =some (.t q)) (hl:l.set p a'=l'):Sub x g ob g (ob.set j (some ⟨t',z',l'⟩)++[some o]):=by
 subst hl
 rintro ts W ⟨cs,hR⟩
 have hk:=Nat.eq_of_beq_eq_true hk
 have hj:=cI ho
 have hcl:=hR.crl hj
 obtain⟨y,hy,hr⟩:=oR hcl hp
 have hlt:=(List.getElem?_eq_some_iff.1 hj).1
 have hlen:=hR.len
 have hjl:j<cs.length:=by omega
 cases hbj:(co cs j).b with
 | none=>
  have:=((hR.obs.2 j _ hj).2 hbj).1
  dsimp only at this
  subst this
  simp at hp
 | some bj=>
  obtain⟨⟨rs,k1,k1l⟩,k2,k3⟩:=hR.blk hj hbj
  have hyok:=wU k2 hy
  rcases sE (k:=key) (a:=.t q) (a':=a') (os:=[o]) (N:=x.fr W ob cs) (by simpa only[CR]using hr) hyok hb9 with⟨h0,_⟩ | ⟨o1,h0,hS,hφ,hA,hnone⟩
  ·cases h0
  injection h0 with h0
  subst h0
  have hval:(VT.w y.val).val=y.val:=rfl
  have hsame1:=Same.set (c:=⟨(co cs j).b,(co cs j).c,(co cs j).l.set p (.w y.val)⟩) hjl rfl rfl
  have hsame:Same cs (cs.set j ⟨(co cs j).b,(co cs j).c,(co cs j).l.set p (.w y.val)⟩++[gI y]):=hsame1.trans .app
  have hcok:co (cs.set j ⟨(co cs j).b,(co cs j).c,(co cs j).l.set p (.w y.val)⟩++[gI y]) key=gI y:=by
   have:=fL (cs:=cs.set j ⟨(co cs j).b,(co cs j).c,(co cs j).l.set p (.w y.val)⟩) (c:=gI y)
   rwa[List.length_set,←hlen,hk]at this
  have hcoj:co (cs.set j ⟨(co cs j).b,(co cs j).c,(co cs j).l.set p (.w y.val)⟩++[gI y]) j=⟨(co cs j).b,(co cs j).c,(co cs j).l.set p (.w y.val)⟩:=by
   rw[jX (by simpa using hjl),jC hjl,if_pos rfl]
  have hrs:aE (ob.set j (some ⟨t',z',l.set p a'⟩)++[some o]) (cs.set j ⟨(co cs j).b,(co cs j).c,(co cs j).l.set p (.w y.val)⟩++[gI y])=(aE ob cs).set j (aI (some ⟨t',z',l.set p a'⟩) ⟨(co cs j).b,(co cs j).c,(co cs j).l.set p (.w y.val)⟩)++[aI (some o) (gI y)]:=by
   rw[←gX]
   unfold aE
   rw[List.zipWith_append (by simpa using hlen)]
   rfl
  have m:=hR.recut (ob':=ob.set j (some ⟨t',z',l.set p a'⟩)++[some o]) (cs':=cs.set j ⟨(co cs j).b,(co cs j).c,(co cs j).l.set p (.w y.val)⟩++[gI y]) (fun b=>by
   have h1:=mF (r':=aI (some ⟨t',z',l.set p a'⟩) ⟨(co cs j).b,(co cs j).c,(co cs j).l.set p (.w y.val)⟩) (aS hlen hj) b
   have h2:=wZ (y':=.w y.val) b hy
   have h3:(aI (some ⟨t',z',l⟩) (co cs j)).S=bj::VT.fpL (co cs j).l:=by simp[aI,hbj]
   have h4:(aI (some ⟨t',z',l.set p a'⟩) ⟨(co cs j).b,(co cs j).c,(co cs j).l.set p (.w y.val)⟩).S=bj::VT.fpL ((co cs j).l.set p (.w y.val)):=by simp[aI,hbj]
   have h5:(VT.w y.val).fp=[]:=rfl
   rw[h3,h4,List.count_cons,List.count_cons]at h1
   rw[h5,List.count_nil]at h2
   unfold cE
   rw[hrs,List.flatMap_append,List.count_append,List.flatMap_cons,List.flatMap_nil,List.append_nil,hS]
   omega) (fun r hr'=>by
   rw[hrs]at hr'
   rcases List.mem_append.1 hr' with hr' | hr'
   ·rcases List.mem_or_eq_of_mem_set hr' with hr' | rfl
    ·exact hR.2.res r hr'
    simp only[aI,hbj]
    rw[Ei hval hy]
    exact⟨⟨rs,k1,by rw[k1l];simp⟩,xA (by simp[VT.ok]) k2,k3⟩
   ·simp at hr'
    subst hr'
    exact hφ) (fun hN=>by
   refine⟨by simp[hlen],fun i o9 hi=>?_⟩
   obtain⟨q1,q2⟩:=hA _ _ hN (by simp;omega) hcok
   rcases Nat.lt_or_ge i ob.length with hil | hil
   ·rw[List.getElem?_append_left (by simpa using hil)]at hi
    by_cases hij:j=i
    ·subst hij
     rw[List.getElem?_set_self hlt]at hi
     injection hi with hi
     injection hi with hi
     subst hi
     rw[hcoj]
     refine⟨sH (hcr q1) (cA (fun _ _=>rfl) hN hsame _ _ hcl),fun h=>?_⟩
     rw[hbj]at h
     cases h
    rw[List.getElem?_set_ne hij]at hi
    have h1:=hR.obs.2 i o9 hi
    rw[jX (by simp;omega),jC hjl,if_neg (fun h=>hij h.symm)]
    exact⟨cA (fun _ _=>rfl) hN hsame _ _ h1.1,h1.2⟩
   have e1:i=key:=by
    have:=(List.getElem?_eq_some_iff.1 hi).1
    simp at this
    omega
   subst e1
   rw[List.getElem?_append_right (by simp;omega)]at hi
   simp[hk]at hi
   subst hi
   rw[hcok]
   exact⟨q2,hnone⟩) hsame
  exact⟨_,m.1⟩
theorem DC {j key p e z n t' z':Nat}{l l':List AV}{trs:List Tr}(hk:dT ob key=true) (hz:Nat.beq z 0=false) (ho:bT ob j=some ⟨t',z',l⟩) (hp:l[p]? =some (.t (.s true e z n trs))) (hl:l.set p (.sl key 0 n)=l'):Sub x g ob g (ob.set j (some ⟨t',z',l'⟩)++[some ⟨e,z,trs.map .t⟩]):=
 CV hk (by simp[rE,hz]) (fun h=>by simpa only[CR]using h) ho hp hl
theorem CW {j k p t' z':Nat}{l l':List AV}{a0:AV}{o:Ob}{q:Tr}(hne:Nat.beq j k=false) (ho:bT ob j=some ⟨t',z',l⟩) (hok:bT ob k=some o) (hp:l[p]? =some a0) (hcr:∀{W:World}{N:Nat→Prop}{cs:List Co}{y:VT},CR W N cs a0 y→∃u,y=.w u∧AR W N cs a0 u) (H:∀{cs:List Co}{ts:Array Value}{W:World}{u:Value},RelC x g ob cs ts W→AR W (x.fr W ob cs) cs a0 u→∃y':VT,y'.val=u∧OR W (x.fr W ob cs) q y'∧y'.ok W∧∀b,y'.fp.count b≤(aI (some o) (co cs k)).S.count b) (hl:l.set p (.t q)=l'):Sub x g ob g ((ob.set j (some ⟨t',z',l'⟩)).set k none):=by
 subst hl
 rintro ts W ⟨cs,hR⟩
 have hjk:j≠k:=fun h=>by subst h;simp at hne
 have hj:=cI ho
 have hkk:=cI hok
 have hcl:=hR.crl hj
 obtain⟨y,hy,hr⟩:=oR hcl hp
 have hlt:=(List.getElem?_eq_some_iff.1 hj).1
 have hkt:=(List.getElem?_eq_some_iff.1 hkk).1
 have hlen:=hR.len
 have hjl:j<cs.length:=by omega
 have hkl:k<cs.length:=by omega
 obtain⟨u,hy9,hr9⟩:=hcr hr
 subst hy9
 obtain⟨y',hv,hor,hyok,hfp⟩:=H hR hr9
 cases hbj:(co cs j).b with
 | none=>
  have:=((hR.obs.2 j _ hj).2 hbj).1
  dsimp only at this
  subst this
  simp at hp
 | some bj=>
  obtain⟨⟨rs,k1,k1l⟩,k2,k3⟩:=hR.blk hj hbj
  have hsame:=Same.set (c:=⟨(co cs j).b,(co cs j).c,(co cs j).l.set p y'⟩) hjl rfl rfl
  have hcoj:co (cs.set j ⟨(co cs j).b,(co cs j).c,(co cs j).l.set p y'⟩) j=⟨(co cs j).b,(co cs j).c,(co cs j).l.set p y'⟩:=by rw[jC hjl,if_pos rfl]
  have hcok:co (cs.set j ⟨(co cs j).b,(co cs j).c,(co cs j).l.set p y'⟩) k=co cs k:=by rw[jC hjl,if_neg (fun h=>hjk h.symm)]
  have hkl2:k<(cs.set j ⟨(co cs j).b,(co cs j).c,(co cs j).l.set p y'⟩).length:=by simpa using hkl
  have hrs:aE ((ob.set j (some ⟨t',z',l.set p (.t q)⟩)).set k none) (cs.set j ⟨(co cs j).b,(co cs j).c,(co cs j).l.set p y'⟩)=((aE ob cs).set j (aI (some ⟨t',z',l.set p (.t q)⟩) ⟨(co cs j).b,(co cs j).c,(co cs j).l.set p y'⟩)).set k (aI none (co cs k)):=by
   rw[←gX,←gX]
   congr 1
   rw[←hcok]
   exact(mG hkl2).symm
  have hk2:((aE ob cs).set j (aI (some ⟨t',z',l.set p (.t q)⟩) ⟨(co cs j).b,(co cs j).c,(co cs j).l.set p y'⟩))[k]? =some (aI (some o) (co cs k)):=by
   rw[List.getElem?_set_ne hjk]
   exact aS hlen hkk
  have m:=hR.recut (ob':=(ob.set j (some ⟨t',z',l.set p (.t q)⟩)).set k none) (cs':=cs.set j ⟨(co cs j).b,(co cs j).c,(co cs j).l.set p y'⟩) (fun b=>by
   have h1:=mF (r':=aI (some ⟨t',z',l.set p (.t q)⟩) ⟨(co cs j).b,(co cs j).c,(co cs j).l.set p y'⟩) (aS hlen hj) b
   have h6:=mF (r':=aI none (co cs k)) hk2 b
   have h2:=wZ (y':=y') b hy
   have h3:(aI (some ⟨t',z',l⟩) (co cs j)).S=bj::VT.fpL (co cs j).l:=by simp[aI,hbj]
   have h4:(aI (some ⟨t',z',l.set p (.t q)⟩) ⟨(co cs j).b,(co cs j).c,(co cs j).l.set p y'⟩).S=bj::VT.fpL ((co cs j).l.set p y'):=by simp[aI,hbj]
   have h5:(VT.w u).fp=[]:=rfl
   have h7:(aI none (co cs k)).S=[]:=by cases hb:(co cs k).b <;> simp[aI]
   have h8:=hfp b
   rw[h3,h4,List.count_cons,List.count_cons]at h1
   rw[h5,List.count_nil]at h2
   rw[h7,List.count_nil]at h6
   unfold cE
   rw[hrs]
   omega) (fun r hr'=>by
   rw[hrs]at hr'
   rcases List.mem_or_eq_of_mem_set hr' with hr' | rfl
   ·rcases List.mem_or_eq_of_mem_set hr' with hr' | rfl
    ·exact hR.2.res r hr'
    simp only[aI,hbj]
    rw[Ei (hv.trans rfl) hy]
    exact⟨⟨rs,k1,by rw[k1l];simp⟩,xA hyok k2,k3⟩
   ·cases hb:(co cs k).b <;> simp[aI]) (fun hN=>by
   refine⟨by simp[hlen],fun i o9 hi=>?_⟩
   rw[List.getElem?_set]at hi
   split at hi
   ·split at hi
    ·simp at hi
    cases hi
   by_cases hij:j=i
   ·subst hij
    rw[List.getElem?_set_self hlt]at hi
    injection hi with hi
    injection hi with hi
    subst hi
    rw[hcoj]
    refine⟨sH (by simpa only[CR]using fI (fun _ _=>rfl) hN _ _ hor) (cA (fun _ _=>rfl) hN hsame _ _ hcl),fun h=>?_⟩
    rw[hbj]at h
    cases h
   rw[List.getElem?_set_ne hij]at hi
   have h1:=hR.obs.2 i o9 hi
   rw[jC hjl,if_neg (fun h=>hij h.symm)]
   exact⟨cA (fun _ _=>rfl) hN hsame _ _ h1.1,h1.2⟩) hsame
  exact⟨_,m.1⟩
theorem uV {j k p e z n t' z':Nat}{l l' l2:List AV}{trs:List Tr}(hne:Nat.beq j k=false) (hz:Nat.beq z 0=false) (ho:bT ob j=some ⟨t',z',l⟩) (hok:bT ob k=some ⟨e,z,l2⟩) (hp:l[p]? =some (.sl k 0 n)) (hl2:l2.take (n*z)=trs.map .t) (hn:trs.length=n*z) (hl:l.set p (.t (.s true e z n trs))=l'):Sub x g ob g ((ob.set j (some ⟨t',z',l'⟩)).set k none):=by
 have hz0:z≠0:=fun e=>by subst e;simp at hz
 have hkk:=cI hok
 refine CW hne ho hok hp (fun{W N cs y} h=>by cases y <;> simp only[CR]at h;exact⟨_,rfl,h⟩) (fun{cs ts W u} hR hr=>?_) hl
 have hck:=hR.crl hkk
 simp only[AR]at hr
 obtain⟨_,hr⟩:=hr
 have hort:ORL W (x.fr W ob cs) trs ((co cs k).l.take (n*z)):=by
  have:=gW (n*z) hck
  dsimp only at this
  rw[hl2]at this
  exact sD this
 cases hb:(co cs k).b with
 | none=>
  rw[hb]at hr
  obtain⟨rfl,_,rfl⟩:=hr
  refine⟨.w (.slice none 0 0),rfl,?_,by simp[VT.ok],fun b=>by simp[VT.fp]⟩
  simp only[OR]
  exact .inl ⟨trivial,trivial,List.eq_nil_of_length_eq_zero (by simpa using hn),trivial⟩
 | some b=>
  rw[hb]at hr
  obtain⟨o',c,rfl,h1,h2,h3,h4⟩:=hr
  obtain rfl:=h3 (.inr trivial)
  have hc:=h4 trivial
  subst hc
  obtain⟨⟨rs,k1,k1l⟩,k2,k3⟩:=hR.blk hkk hb
  dsimp only at k1l
  rw[hz,cond_false]at k1l
  refine⟨.s b (co cs k).c e z n ((co cs k).l.take (n*z)),rfl,?_,?_,fun b'=>?_⟩
  ·simp only[OR]
   exact⟨trivial,trivial,trivial,trivial,hort⟩
  ·simp only[VT.ok]
   refine⟨⟨((co cs k).l.drop (n*z)).map VT.val++rs,?_,?_⟩,h1,k3,by rw[rQ hort,hn],pM _ _ k2⟩
   ·rw[←List.append_assoc,kD]
    exact k1
   rw[←List.append_assoc,kD,k1l]
  simp only[VT.fp,aI,hb]
  exact((tU (co cs k).l (n*z)).cons_cons b).count_le b'
end
def fE (ob:List (Option Ob)) (K0:List Nat):List Nat→List Lt→Prop
 | [],l=>l=[]
 | _::_,[]=>False
 | k::K,a::l=>xS K0 (bT ob k) a.ob∧fE ob K0 K l
def eC (K0:List Nat):List Lt→List (Option Ob)→Prop
 | [],l=>l=[]
 | _::_,[]=>False
 | a::l,o::os=>xS K0 o a.ob∧eC K0 l os
def bN:List (Option Ob)→List Nat→List (Option Ob)→List (Option Ob)
 | ob,k::K,a::l=>bN (ob.set k a) K l
 | ob,_,_=>ob
def cT:List Co→List Nat→List Co→List Co
 | cs,k::K,c::l=>cT (cs.set k c) K l
 | cs,_,_=>cs
def bX (K:List Nat):List (Option Ob):=K.map fun _=>none
def qG (n:Nat) (g:Nat→FV) (K:List Nat):List Operand→List FV→Prop
 | [],aa=>aa=[]
 | _::_,[]=>False
 | o::os,a::aa=>tP K a=some (lk n g o)∧qG n g K os aa
def Wo (x:Cx) (g:Nat→FV) (cf:Operand) (f:FuncId) (fst caps:List Tr):Prop:=∀ob cs ts W,RelC x g ob cs ts W→∃us0 us,Act.eval ⟨ts,[]⟩ cf=.func (.func f) us0.toArray us.toArray∧FRL W (x.fr W ob cs) fst us0∧FRL W (x.fr W ob cs) caps us
def Pw:Tr→FV
 | .a l=>.agg (l.map .t)
 | c=>.one (.t c)
def fG (caps:List Tr):List FV:=caps.map Pw
section
variable {x:Cx}{g g':Nat→FV}{ob ob':List (Option Ob)}{cs cs':List Co}{ts ts':Array Value}{W W':World}
theorem Gw (f:FuncId):Wo x g (.func f) f [] []:=fun _ _ _ _ _=>⟨[],[],rfl,by simp[FRL],by simp[FRL]⟩
theorem Ej {N:Nat→Prop}:∀{l:List Tr}{us:List Value},FRL W N l us→ARL W N cs (l.map .t) us
 | [],us,h=>by simpa[FRL,ARL]using h
 | y::l,[],h=>by simp only[FRL]at h
 | y::l,u::us,h=>by
  simp only[FRL]at h
  simp only[List.map_cons,ARL,AR]
  exact⟨h.1,Ej h.2⟩
theorem eD:∀{K:List Nat}{l:List (Option Ob)}{ob:List (Option Ob)},(bN ob K l).length=ob.length
 | [],l,ob=>by simp[bN]
 | k::K,[],ob=>by simp[bN]
 | k::K,a::l,ob=>by simp[bN,eD (K:=K)]
theorem jJ:∀{K:List Nat}{l:List Co}{cs:List Co},(cT cs K l).length=cs.length
 | [],l,cs=>by simp[cT]
 | k::K,[],cs=>by simp[cT]
 | k::K,a::l,cs=>by simp[cT,jJ (K:=K)]
theorem eZ:∀{K:List Nat}{l:List (Option Ob)}{ob:List (Option Ob)}{j:Nat},j∉K→(bN ob K l)[j]? =ob[j]?
 | [],l,ob,j,_=>by simp[bN]
 | k::K,[],ob,j,_=>by simp[bN]
 | k::K,a::l,ob,j,h=>by
  simp only[List.mem_cons,not_or]at h
  simp only[bN]
  rw[eZ h.2,List.getElem?_set_ne (fun e=>h.1 e.symm)]
theorem kX:∀{K:List Nat}{l:List Co}{cs:List Co}{j:Nat},j∉K→co (cT cs K l) j=co cs j
 | [],l,cs,j,_=>by simp[cT]
 | k::K,[],cs,j,_=>by simp[cT]
 | k::K,a::l,cs,j,h=>by
  simp only[List.mem_cons,not_or]at h
  simp only[cT]
  rw[kX h.2]
  unfold co
  rw[List.getElem?_set_ne (fun e=>h.1 e.symm)]
theorem iQ:∀{K:List Nat}{l:List (Option Ob)}{ob:List (Option Ob)}{i k:Nat},K.Nodup→l.length=K.length→K[i]? =some k→k<ob.length→(bN ob K l)[k]? =l[i]?
 | [],l,ob,i,k,_,_,h,_=>by simp at h
 | k0::K,[],ob,i,k,_,hl,_,_=>by simp at hl
 | k0::K,a::l,ob,0,k,hn,hl,h,hk=>by
  simp at h
  subst h
  have hn:=List.nodup_cons.1 hn
  simp only[bN]
  rw[eZ hn.1,List.getElem?_set_self hk]
  rfl
 | k0::K,a::l,ob,i+1,k,hn,hl,h,hk=>by
  have hn:=List.nodup_cons.1 hn
  simp only[bN]
  exact iQ hn.2 (by simpa using hl) (by simpa using h) (by simpa using hk)
theorem Ek:∀{K:List Nat}{l:List Co}{cs:List Co}{i k:Nat},K.Nodup→l.length=K.length→K[i]? =some k→k<cs.length→co (cT cs K l) k=co l i
 | [],l,cs,i,k,_,_,h,_=>by simp at h
 | k0::K,[],cs,i,k,_,hl,_,_=>by simp at hl
 | k0::K,a::l,cs,0,k,hn,hl,h,hk=>by
  simp at h
  subst h
  have hn:=List.nodup_cons.1 hn
  simp only[cT]
  rw[kX hn.1]
  simp[co,List.getElem?_set_self hk]
 | k0::K,a::l,cs,i+1,k,hn,hl,h,hk=>by
  have hn:=List.nodup_cons.1 hn
  simp only[cT]
  rw[Ek hn.2 (by simpa using hl) (by simpa using h) (by simpa using hk)]
  simp[co]
theorem pQ {K0:List Nat}:∀{K:List Nat}{l:List Lt},fE ob K0 K l→l.length=K.length
 | [],l,h=>by
  simp only[fE]at h
  simp[h]
 | k::K,[],h=>by simp only[fE]at h
 | k::K,a::l,h=>by
  simp only[fE]at h
  simp[pQ h.2]
theorem gZ {K0:List Nat}:∀{K:List Nat}{l:List Lt}{i k:Nat},fE ob K0 K l→K[i]? =some k→∃(a:Lt) (l':List AV),l[i]? =some a∧renL K0 a.l=some l'∧ob[k]? =some (some ⟨a.t,a.z,l'⟩)
 | [],l,i,k,_,h=>by simp at h
 | k0::K,[],i,k,h,_=>by simp only[fE]at h
 | k0::K,a::l,0,k,h,hk=>by
  simp only[fE]at h
  simp at hk
  subst hk
  obtain⟨⟨l',h1,h2⟩,_⟩:=h
  exact⟨a,l',rfl,h1,cI h2⟩
 | k0::K,a::l,i+1,k,h,hk=>by
  simp only[fE]at h
  exact gZ (i:=i) h.2 (by simpa using hk)
theorem vH {K0:List Nat}:∀{l:List Lt}{os:List (Option Ob)},eC K0 l os→os.length=l.length
 | [],l,h=>by
  simp only[eC]at h
  simp[h]
 | k::K,[],h=>by simp only[eC]at h
 | k::K,a::l,h=>by
  simp only[eC]at h
  simp[vH h.2]
theorem pR {K0:List Nat}:∀{l:List Lt}{os:List (Option Ob)}{i:Nat}{a:Lt},eC K0 l os→l[i]? =some a→∃l',renL K0 a.l=some l'∧os[i]? =some (some ⟨a.t,a.z,l'⟩)
 | [],_,_,_,_,h=>by simp at h
 | b::l,[],_,_,h,_=>by simp only[eC]at h
 | b::l,o::os,0,a,h,ha=>by
  simp only[eC]at h
  simp at ha
  subst ha
  obtain⟨⟨l',h1,h2⟩,_⟩:=h
  exact⟨l',h1,by rw[h2];rfl⟩
 | b::l,o::os,i+1,a,h,ha=>by
  simp only[eC]at h
  obtain⟨l',h1,h2⟩:=pR (i:=i) h.2 (by simpa using ha)
  exact⟨l',h1,by simpa using h2⟩
def Az (K:List Nat) (cl cs2:List Co):Prop:=∀i k,K[i]? =some k→k<cs2.length∧co cs2 k=co cl i
mutual
theorem Px {K:List Nat}{N:Nat→Prop}{cl cs2:List Co}(hc:Az K cl cs2):∀(a a':AV) (u:Value),eT K a=some a'→AR W N cl a u→AR W N cs2 a' u
 | .t y,a',u,h,hr=>by
  simp only[eT,Option.some.injEq]at h
  subst h
  simpa only[AR]using hr
 | .sl k o n,a',u,h,hr=>by
  simp only[eT]at h
  split at h
  ·rename_i t ht
   simp only[Option.some.injEq]at h
   subst h
   simp only[AR]at hr⊢
   rw[(hc k t ht).2]
   exact⟨(hc k t ht).1,hr.2⟩
  cases h
 | .pt k o,a',u,h,hr=>by
  simp only[eT]at h
  split at h
  ·rename_i t ht
   simp only[Option.some.injEq]at h
   subst h
   simp only[AR]at hr⊢
   rw[(hc k t ht).2]
   exact hr
  cases h
 | .ef l o,a',u,h,hr=>by
  simp only[eT,Option.some.injEq]at h
  subst h
  simpa only[AR]using hr
 | .fn f a b,a',u,h,hr=>by
  simp only[eT]at h
  split at h
  ·rename_i a1 b1 h1 h2
   simp only[Option.some.injEq]at h
   subst h
   simp only[AR]at hr⊢
   obtain⟨us,vs,e,r1,r2⟩:=hr
   exact⟨us,vs,e,ARL_to hc a a1 us h1 r1,ARL_to hc b b1 vs h2 r2⟩
  cases h
theorem ARL_to {K:List Nat}{N:Nat→Prop}{cl cs2:List Co}(hc:Az K cl cs2):∀(l l':List AV) (us:List Value),renL K l=some l'→ARL W N cl l us→ARL W N cs2 l' us
 | [],l',us,h,hr=>by
  simp only[renL,Option.some.injEq]at h
  subst h
  simpa only[ARL]using hr
 | a::l,l',us,h,hr=>by
  simp only[renL]at h
  split at h
  ·rename_i a1 l1 h1 h2
   simp only[Option.some.injEq]at h
   subst h
   cases us with
   | nil=>simp only[ARL]at hr
   | cons u us=>
    simp only[ARL]at hr⊢
    exact⟨Px hc a a1 u h1 hr.1,ARL_to hc l l1 us h2 hr.2⟩
  cases h
end
theorem Wp {N:Nat→Prop}{a:AV}{u:Value}(h:∀z,a≠.t z):CR W N cs a (.w u)↔AR W N cs a u:=by
 cases a with
 | t z=>exact absurd rfl (h z)
 | _=>simp only[CR]
theorem Wq {K:List Nat}{a a':AV}(h:eT K a=some a') (hn:∀z,a≠.t z):∀z,a'≠.t z:=by
 intro z e
 subst e
 cases a with
 | t z=>exact hn z rfl
 | ef l o=>simp[eT]at h
 | _=>
  simp only[eT]at h
  split at h <;> simp at h
theorem Zy {K:List Nat}{N:Nat→Prop}{cl cs2:List Co}(hc:Az K cl cs2){a a':AV}{y:VT}(h:eT K a=some a') (hr:CR W N cl a y):CR W N cs2 a' y:=by
 by_cases ht:∃z,a=.t z
 ·obtain⟨z,rfl⟩:=ht
  simp only[eT,Option.some.injEq]at h
  subst h
  simpa only[CR]using hr
 have hn:∀z,a≠.t z:=fun z e=>ht ⟨z,e⟩
 cases y with
 | w u=>exact(Wp (Wq h hn)).2 (Px hc _ _ u h ((Wp hn).1 hr))
 | _=>
  cases a with
  | t z=>exact absurd rfl (hn z)
  | _=>simp only[CR]at hr
theorem Jt {K:List Nat}{N:Nat→Prop}{cl cs2:List Co}(hc:Az K cl cs2):∀{l l':List AV}{ys:List VT},renL K l=some l'→bB W N cl l ys→bB W N cs2 l' ys
 | [],l',ys,h,hr=>by
  simp only[renL,Option.some.injEq]at h
  subst h
  simpa only[bB]using hr
 | a::l,l',ys,h,hr=>by
  simp only[renL]at h
  split at h
  ·rename_i a1 l1 h1 h2
   simp only[Option.some.injEq]at h
   subst h
   cases ys with
   | nil=>simp only[bB]at hr
   | cons y ys=>
    simp only[bB]at hr⊢
    exact⟨Zy hc h1 hr.1,Jt hc h2 hr.2⟩
  cases h
theorem tY {K:List Nat}{l l':List AV}(h:renL K l=some l'):l=[]↔l'=[]:=by
 cases l with
 | nil=>
  simp only[renL,Option.some.injEq]at h
  simp[←h]
 | cons a l=>
  simp only[renL]at h
  split at h
  ·simp only[Option.some.injEq]at h
   simp[←h]
  cases h
theorem sJ (b:Nat):∀{K:List Nat}{l:List (Option Ob)}{lc:List Co}{ob:List (Option Ob)}{cs:List Co},K.Nodup→l.length=K.length→lc.length=K.length→ob.length=cs.length→(∀k∈K,k<ob.length)→
  (cE (bN ob K l) (cT cs K lc)).count b=(cE (bN ob K (bX K)) cs).count b+((aE l lc).flatMap Res.S).count b
 | [],l,lc,ob,cs,_,h1,h2,_,_=>by
  obtain rfl:=List.eq_nil_of_length_eq_zero h1
  obtain rfl:=List.eq_nil_of_length_eq_zero h2
  simp[bN,cT,bX,aE]
 | k::K,[],lc,ob,cs,_,h1,h2,_,_=>by simp at h1
 | k::K,a::l,[],ob,cs,_,h1,h2,_,_=>by simp at h2
 | k::K,a::l,c::lc,ob,cs,hn,h1,h2,h3,h4=>by
  have hn':=List.nodup_cons.1 hn
  have hk:=h4 k (by simp)
  have ih1:=sJ b (K:=K) (l:=l) (lc:=lc) (ob:=ob.set k a) (cs:=cs.set k c) hn'.2 (by simpa using h1) (by simpa using h2) (by simpa using h3) (fun j hj=>by simpa using h4 j (List.mem_cons_of_mem _ hj))
  have e1:bX (k::K)=none::bX K:=rfl
  simp only[bN,cT,e1,aE,List.zipWith_cons_cons,List.flatMap_cons,List.count_append]
  unfold aE at ih1
  rw[ih1]
  -- the k-th of the others
  have e2:bN (ob.set k none) K (bX K)=(bN (ob.set k a) K (bX K)).set k none:=by
   apply List.ext_getElem?
   intro j
   by_cases hj:j∈K
   ·obtain⟨i,hi⟩:=List.mem_iff_getElem?.1 hj
    have hkj:k≠j:=fun e=>hn'.1 (e▸hj)
    rw[List.getElem?_set_ne hkj,iQ hn'.2 (by simp[bX]) hi (by simpa using h4 j (List.mem_cons_of_mem _ hj)),iQ hn'.2 (by simp[bX]) hi (by simpa using h4 j (List.mem_cons_of_mem _ hj))]
   rw[eZ hj]
   by_cases hkj:k=j
   ·subst hkj
    rw[List.getElem?_set_self hk,List.getElem?_set_self (by rw[eD];simpa using hk)]
   rw[List.getElem?_set_ne hkj,List.getElem?_set_ne hkj,eZ hj,List.getElem?_set_ne hkj]
  have e3:(bN (ob.set k a) K (bX K))[k]? =some a:=by rw[eZ hn'.1,List.getElem?_set_self hk]
  have hck:co (cs.set k c) k=c:=by simp[co,List.getElem?_set_self (show k<cs.length by omega)]
  have hl0:(bN (ob.set k a) K (bX K)).length=(cs.set k c).length:=by rw[eD];simpa using h3
  have h5:=mF (r':=aI none (co cs k)) (aS hl0 e3) b
  rw[hck]at h5
  have e4:(aE (bN (ob.set k a) K (bX K)) (cs.set k c)).set k (aI none (co cs k))=aE (bN (ob.set k none) K (bX K)) cs:=by
   rw[e2,←gX]
   congr 1
   rw[List.set_set,mG (by omega)]
  have h6:(aI none (co cs k)).S=[]:=by cases hb:(co cs k).b <;> simp[aI]
  rw[e4,h6,List.count_nil]at h5
  unfold cE aE
  unfold aE at h5
  omega
theorem jE {K:List Nat}(hn:K.Nodup) (hl:ob.length=cs.length) (hK:∀k∈K,k<ob.length){r:Res}(h:r∈aE (bN ob K (bX K)) cs):r∈aE ob cs∨r.S=[]∧∀W,r.φ W:=by
 obtain⟨j,hj⟩:=List.mem_iff_getElem?.1 h
 by_cases hjK:j∈K
 ·obtain⟨i,hi⟩:=List.mem_iff_getElem?.1 hjK
  have h1:=iQ (l:=bX K) hn (by simp[bX]) hi (hK j hjK)
  have h2:(bX K)[i]? =some none:=by simp[bX,hi]
  rw[h2]at h1
  rw[aS (by rw[eD];exact hl) h1]at hj
  injection hj with hj
  subst hj
  refine .inr ⟨?_,fun W=>?_⟩ <;> cases hb:(co cs j).b <;> simp[aI]
 left
 have h1:=eZ (l:=bX K) (ob:=ob) hjK
 cases h2:ob[j]? with
 | none=>
  rw[h2]at h1
  have:¬j<(bN ob K (bX K)).length:=fun h=>by simp[h]at h1
  have h3:=(List.getElem?_eq_some_iff.1 hj).1
  rw[dP (by rw[eD];exact hl)]at h3
  rw[eD]at this
  omega
 | some o=>
  rw[h2]at h1
  rw[aS (by rw[eD];exact hl) h1]at hj
  injection hj with hj
  subst hj
  exact List.mem_of_getElem? (aS hl h2)
theorem Ba {K:List Nat}{N':Nat→Prop}(hR:RelC x g ob cs ts W) (hN:∀b,x.fr W ob cs b→N' b):∀{os:List Operand}{aa:List FV},qG x.n g K os aa→cM W N' (K.map (co cs)) aa (os.map (Act.eval ⟨ts,[]⟩))
 | [],aa,h=>by
  simp only[qG]at h
  simp[h,cM]
 | o::os,[],h=>by simp only[qG]at h
 | o::os,a::aa,h=>by
  simp only[qG]at h
  simp only[List.map_cons,cM]
  refine⟨?_,Ba hR hN h.2⟩
  have:=Dw hN h.1 (hR.lk o)
  cases a with
  | tup l=>simp[tP]at h
  | _=>exact this
theorem oS {N:Nat→Prop}:∀{l l':List FV}{us us':List Value},cM W N cs l us→cM W N cs l' us'→cM W N cs (l++l') (us++us')
 | [],l',us,us',h,h'=>by
  simp only[cM]at h
  subst h
  simpa using h'
 | a::l,l',u::us,us',h,h'=>by
  simp only[cM]at h
  simp only[List.cons_append,cM]
  exact⟨h.1,oS h.2 h'⟩
 | _::_,_,[],_,h,_=>by simp only[cM]at h
theorem nA {N N':Nat→Prop}(hN:∀b,N b→N' b):∀{caps:List Tr}{us:List Value},FRL W N caps us→cM W N' cs (fG caps) us
 | [],us,h=>by
  simp only[FRL]at h
  simp[h,fG,cM]
 | c::caps,[],h=>by simp only[FRL]at h
 | c::caps,u::us,h=>by
  simp only[FRL]at h
  simp only[fG,List.map_cons,cM]
  refine⟨?_,nA hN h.2⟩
  have h1:=fW (W':=W) (fun _ _=>rfl) hN _ _ h.1
  cases c with
  | a l=>
   simp only[FR]at h1
   obtain⟨us,e,h2⟩:=h1
   exact⟨us,e,Ej h2⟩
  | _=>simpa only[Pw,bR,AR]using h1
theorem Gx {fresh:Bool}{f:FuncId}{args:List FV}{R:List Lt→FV→Prop}{lent:List Lt}{K:List Nat}{os:List Operand}{fst caps:List Tr}{fus cus:List Value}(hS:aL fresh x.P f lent (fG fst++args++fG caps) R) (hK:fE ob K K lent) (hnd:K.Nodup) (ha:qG x.n g K os args) (hfst:FRL W (x.fr W ob cs) fst fus) (hcap:FRL W (x.fr W ob cs) caps cus) (hR:RelC x g ob cs ts W):
  Calls x.P f (fus++os.map (Act.eval ⟨ts,[]⟩)++cus).toArray W (fun e W'=>∃v lent' r ys cl N2,e=.returned v∧R lent' r∧lent'.length=K.length∧cl.length=K.length∧RO W' N2 cl r v ys∧VT.okL W' ys∧(VT.fpL ys).Nodup∧
   ∀(ok:List (Option Ob)),eC K lent' ok→∀(oz:List Ob) (csn:List Co),csn.length=oz.length→(∀b,((aE (oz.map some) csn).flatMap Res.S).count b≤(VT.fpL ys).count b)→(∀r∈aE (oz.map some) csn,r.φ W')→
    (∀b,N2 b→x.fr W' (bN ob K ok++oz.map some) (cT cs K cl++csn) b)∧
    ((∀i o,oz[i]? =some o→bB W' (x.fr W' (bN ob K ok++oz.map some) (cT cs K cl++csn)) (cT cs K cl++csn) o.l (co csn i).l∧((co csn i).b=none→o.l=[]∧o.z≠0))→
     RelC x g (bN ob K ok++oz.map some) (cT cs K cl++csn) ts W'∧∀d,Aft K d ob cs ts W (bN ob K ok++oz.map some) (cT cs K cl++csn) ts W')):=by
 have hlen:=hR.len
 have hll:=pQ hK
 have hKl:∀k∈K,k<ob.length:=fun k hk=>by
  obtain⟨i,hi⟩:=List.mem_iff_getElem?.1 hk
  obtain⟨a,l',_,_,h2⟩:=gZ hK hi
  exact(List.getElem?_eq_some_iff.1 h2).1
 have hlobs:(aV lent).length=K.length:=by rw[gY,hll]
 have hput0:aE (bN ob K (aV lent)) cs=aE ob cs:=by
  have hl0:(bN ob K (aV lent)).length=cs.length:=by rw[eD];exact hlen
  apply List.ext_getElem?
  intro j
  by_cases hjl:j<ob.length
  ·by_cases hj:j∈K
   ·obtain⟨i,hi⟩:=List.mem_iff_getElem?.1 hj
    obtain⟨a,l',h1,_,h2⟩:=gZ hK hi
    have h3:=iQ hnd hlobs hi hjl
    rw[eO,h1]at h3
    rw[aS hl0 h3,aS hlen h2]
    exact congrArg some (kB _ _)
   have h3:=eZ (l:=aV lent) (ob:=ob) hj
   rw[List.getElem?_eq_getElem hjl]at h3
   rw[aS hl0 h3,aS hlen (List.getElem?_eq_getElem hjl)]
  rw[List.getElem?_eq_none (by rw[dP hl0];omega),List.getElem?_eq_none (by rw[dP hlen];omega)]
 have hputc:cT cs K (K.map (co cs))=cs:=by
  have key:∀(K:List Nat),(∀k∈K,k<cs.length)→cT cs K (K.map (co cs))=cs:=by
   intro K
   induction K with
   | nil=>intro _;rfl
   | cons k K ih=>
    intro h
    simp only[List.map_cons,cT]
    rw[mG (h k (by simp))]
    exact ih fun j hj=>h j (List.mem_cons_of_mem _ hj)
  exact key K fun k hk=>by rw[←hlen];exact hKl k hk
 have hcnt0:=fun b=>sJ b (l:=aV lent) (lc:=K.map (co cs)) (cs:=cs) hnd hlobs (by simp) hlen hKl
 unfold cE at hcnt0
 rw[hputc,hput0]at hcnt0
 have hfr0:∀b,x.fr W ob cs b→jP W (aE (aV lent) (K.map (co cs))) b:=fun b hb=>And.intro hb.1.1 fun hm=>hb.1.2 (by
  have h1:=List.count_pos_iff.2 hm
  have h2:=hcnt0 b
  exact List.count_pos_iff.1 (show 0<((aE ob cs).flatMap Res.S).count b by omega))
 have hgetL:∀i k,K[i]? =some k→∃(a:Lt) (l':List AV),lent[i]? =some a∧renL K a.l=some l'∧ob[k]? =some (some (⟨a.t,a.z,l'⟩:Ob)):=fun i k hi=>gZ hK hi
 have hφ0:∀r∈aE (aV lent) (K.map (co cs)),r.φ W:=fun r hr=>by
  obtain⟨i,hi⟩:=List.mem_iff_getElem?.1 hr
  have hil:=(List.getElem?_eq_some_iff.1 hi).1
  have hil2:i<K.length:=by
   rw[dP (by simp[hlobs])]at hil
   simpa using hil
  obtain⟨a,l',h1,_,h2⟩:=hgetL i K[i] (List.getElem?_eq_getElem hil2)
  have e1:(aV lent)[i]? =some (some a.ob):=by rw[eO,h1];rfl
  rw[aS (by simp[hlobs]) e1,iI (List.getElem?_eq_getElem hil2)]at hi
  injection hi with hi
  subst hi
  rw[show aI (some a.ob) (co cs K[i])=aI (some ⟨a.t,a.z,l'⟩) (co cs K[i]) from kB _ _]
  exact hR.res h2
 have h1:Loc x.M x.w W (aE (aV lent) (K.map (co cs))++aE (bN ob K (bX K)) cs) []:=(hR.2.pickS []).cut (fun b=>by
  rw[List.flatMap_append,List.count_append]
  have:=hcnt0 b
  omega) (fun r hr=>by
  rcases List.mem_append.1 hr with hr | hr
  ·exact hφ0 r hr
  rcases jE hnd hlen hKl hr with hr | hr
  ·exact hR.2.res r hr
  exact hr.2 W)
 have h2:Loc ((aE (aV lent) (K.map (co cs))).flatMap Res.S) W W (aE (aV lent) (K.map (co cs))) [(Jm lent (K.map (co cs)) (fG fst++args++fG caps) (fus++os.map (Act.eval ⟨ts,[]⟩)++cus)).on (x.fr W ob cs)]:=by
  refine h1.focus.read _ ⟨⟨by simp[hlobs],fun k o hk=>?_⟩,oS (oS (nA (fun b hb=>⟨hfr0 b hb,hb⟩) hfst) (Ba hR (fun b hb=>⟨hfr0 b hb,hb⟩) ha)) (nA (fun b hb=>⟨hfr0 b hb,hb⟩) hcap)⟩
  rw[eO]at hk
  cases hq:lent[k]? with
  | none=>rw[hq]at hk;cases hk
  | some a=>
   rw[hq]at hk
   simp at hk
   subst hk
   have hkK:k<K.length:=by rw[←hll];exact(List.getElem?_eq_some_iff.1 hq).1
   obtain⟨a',l',q1,q0,q2⟩:=hgetL k K[k] (List.getElem?_eq_getElem hkK)
   rw[hq]at q1
   injection q1 with q1
   subst q1
   have q3:=hR.obs.2 _ _ q2
   rw[iI (List.getElem?_eq_getElem hkK)]
   exact⟨sC (fun b hb=>⟨hfr0 b hb,hb⟩) q0 q3.1,fun h=>⟨(tY q0).2 (q3.2 h).1,(q3.2 h).2⟩⟩
 refine(hS _ W _ _ h2).mono fun e W' hE=>?_
 obtain⟨v,lent',cl,r,ys,rfl,hr,hl',hty,hcl,hsame,h3⟩:=hE
 have h4:=Loc.turn h1 h3
 have hsh:=Sh.off (h3.sh 0 rfl)
 have hcl':cl.length=K.length:=by simpa using hcl
 have hlK:lent'.length=K.length:=by rw[hl',hll]
 refine⟨v,lent',r,ys,cl,_,rfl,hr,hlK,hcl',hsh.2,h3.res (dY ys) (by simp),?_,fun ok hbk oz csn hlz hcz hφz=>?_⟩
 ·have:=h3.nd
  rw[List.flatMap_append,List.nodup_append]at this
  simpa[dY]using this.2.1
 have hlob':ok.length=K.length:=by rw[vH hbk,hlK]
 have hrk:aE ok cl=aE (aV lent') cl:=by
  apply List.ext_getElem?
  intro j
  by_cases hj:j<lent'.length
  ·obtain⟨l',q1,q2⟩:=pR hbk (List.getElem?_eq_getElem hj)
   rw[aS (by rw[hlob',hcl']) q2,aS (ob:=aV lent') (by rw[gY,hlK,hcl']) (o:=some (lent'[j]).ob) (by rw[eO,List.getElem?_eq_getElem hj];rfl)]
   exact congrArg some (kB _ _)
  rw[List.getElem?_eq_none (by rw[dP (by rw[hlob',hcl'])];omega),List.getElem?_eq_none (by rw[dP (by rw[gY,hlK,hcl'])];omega)]
 have hlen2:(bN ob K ok).length=(cT cs K cl).length:=by rw[eD,jJ];exact hlen
 have hrs:aE (bN ob K ok++oz.map some) (cT cs K cl++csn)=aE (bN ob K ok) (cT cs K cl)++aE (oz.map some) csn:=by
  unfold aE
  rw[List.zipWith_append hlen2]
 have hcnt2:∀b,(cE (bN ob K ok++oz.map some) (cT cs K cl++csn)).count b≤(((aE (aV lent') cl++[dY ys])++aE (bN ob K (bX K)) cs).flatMap Res.S).count b:=fun b=>by
  have q1:=sJ b (l:=ok) (lc:=cl) (cs:=cs) hnd hlob' hcl' hlen hKl
  rw[hrk]at q1
  have q2:=hcz b
  unfold cE at q1⊢
  rw[hrs,List.flatMap_append,List.count_append,List.flatMap_append,List.count_append,List.flatMap_append,List.count_append,List.flatMap_cons,List.flatMap_nil,List.append_nil]
  have q3:(dY ys).S=VT.fpL ys:=rfl
  rw[q3]
  omega
 have hin2:∀b,b∈cE (bN ob K ok++oz.map some) (cT cs K cl++csn)→b∈((aE (aV lent') cl++[dY ys])++aE (bN ob K (bX K)) cs).flatMap Res.S:=fun b hb=>List.count_pos_iff.1 (Nat.lt_of_lt_of_le (List.count_pos_iff.2 hb) (hcnt2 b))
 have hrest:∀b,b∈(aE (bN ob K (bX K)) cs).flatMap Res.S→b∈cE ob cs:=fun b hb=>by
  obtain⟨r,hr,hb⟩:=List.mem_flatMap.1 hb
  rcases jE hnd hlen hKl hr with hr | hr
  ·exact List.mem_flatMap.2 ⟨r,hr,hb⟩
  rw[hr.1]at hb
  cases hb
 have hlentS:∀b,b∈(aE (aV lent) (K.map (co cs))).flatMap Res.S→b∈cE ob cs:=fun b hb=>by
  have q1:=List.count_pos_iff.2 hb
  have q2:=hcnt0 b
  exact List.count_pos_iff.1 (show 0<((aE ob cs).flatMap Res.S).count b by omega)
 have hfree:∀b,jP W' (aE (aV lent') cl++[dY ys]) b→(x.fr W ob cs b∨b∈(aE (aV lent) (K.map (co cs))).flatMap Res.S∨W.heap.size≤b)→x.fr W' (bN ob K ok++oz.map some) (cT cs K cl++csn) b:=fun b hb hb'=>by
  refine⟨⟨hb.1,fun hm=>?_⟩,?_⟩
  ·have hm:=hin2 b hm
   rw[List.flatMap_append,List.mem_append]at hm
   rcases hm with hm | hm
   ·exact hb.2 hm
   have hm2:=hrest b hm
   rcases hb' with hb' | hb' | hb'
   ·exact hb'.1.2 hm2
   ·have q1:=hcnt0 b
    have q2:=List.nodup_iff_count.1 hR.2.nd b
    have q3:=List.count_pos_iff.2 hb'
    have q4:=List.count_pos_iff.2 hm
    unfold cE at q1
    omega
   have:=(hR.2.blk b hm2).2
   omega
  rcases hb' with hb' | hb' | hb'
  ·exact hb'.2
  ·exact .inr (hR.2.blk b (hlentS b hb')).1
  exact .inr (.inr (Nat.le_trans hR.2.chg.size hb'))
 have hsize:W.heap.size≤W'.heap.size:=h3.chg.size
 have hfr:∀b,x.fr W ob cs b→x.fr W' (bN ob K ok++oz.map some) (cT cs K cl++csn) b:=fun b hb=>by
  refine hfree b ⟨Nat.lt_of_lt_of_le hb.1.1 hsize,fun hm=>?_⟩ (.inl hb)
  have q1:=h3.blk b hm
  rcases q1.1 with q1 | q1
  ·exact hb.1.2 (hlentS b q1)
  have:=hb.1.1
  omega
 have hkeep:∀b,x.fr W ob cs b→W'.heap[b]? =W.heap[b]? :=fun b hb=>h3.chg.block b hb.1.1 (fun hm=>hb.1.2 (hlentS b hm))
 refine⟨fun b hb=>hfree b hb.2.1 hb.2.2,fun hoz=>?_⟩
 have hcoK:∀i k,K[i]? =some k→co (cT cs K cl) k=co cl i:=fun i k hi=>Ek hnd hcl' hi (by rw[←hlen];exact hKl k (List.mem_of_getElem? hi))
 have hsame2:Same cs (cT cs K cl):=⟨by rw[jJ];exact Nat.le_refl _,fun k hk=>by
  by_cases hkK:k∈K
  ·obtain⟨i,hi⟩:=List.mem_iff_getElem?.1 hkK
   have:=hsame.2 i (by simpa using(List.getElem?_eq_some_iff.1 hi).1)
   rw[iI hi]at this
   rw[hcoK i k hi]
   exact this
  rw[kX hkK]
  exact⟨rfl,rfl⟩⟩
 have happ:∀{k},k<(cT cs K cl).length→co (cT cs K cl++csn) k=co (cT cs K cl) k:=fun hk=>by simp[co,List.getElem?_append_left hk]
 have hsame3:Same cs (cT cs K cl++csn):=hsame2.trans ⟨by simp,fun k hk=>by rw[happ hk];exact⟨rfl,rfl⟩⟩
 have hLf:Loc x.M x.w W' (aE (bN ob K ok++oz.map some) (cT cs K cl++csn)) []:=h4.cut hcnt2 (fun r hr=>by
  rw[hrs]at hr
  rcases List.mem_append.1 hr with hr | hr
  ·obtain⟨j,hj⟩:=List.mem_iff_getElem?.1 hr
   have hjl:=(List.getElem?_eq_some_iff.1 hj).1
   rw[dP hlen2,jJ,←hlen]at hjl
   by_cases hjK:j∈K
   ·obtain⟨i,hi⟩:=List.mem_iff_getElem?.1 hjK
    have q1:=iQ hnd hlob' hi (hKl j hjK)
    have q2:i<ok.length:=by rw[hlob'];exact(List.getElem?_eq_some_iff.1 hi).1
    rw[List.getElem?_eq_getElem q2]at q1
    rw[aS hlen2 q1,hcoK i j hi]at hj
    injection hj with hj
    subst hj
    refine h3.res _ (List.mem_append_left _ (by rw[←hrk];exact List.mem_of_getElem? (aS (by rw[hlob',hcl']) (List.getElem?_eq_getElem q2))))
   have q1:(bN ob K ok)[j]? =ob[j]? :=eZ hjK
   rw[List.getElem?_eq_getElem hjl]at q1
   rw[aS hlen2 q1,kX hjK]at hj
   injection hj with hj
   subst hj
   have q2:(bN ob K (bX K))[j]? =ob[j]? :=eZ hjK
   rw[List.getElem?_eq_getElem hjl]at q2
   exact h4.res _ (List.mem_append_right _ (List.mem_of_getElem? (aS (by rw[eD];exact hlen) q2)))
  exact hφz r hr)
 refine⟨.of hR.1 hLf ⟨by rw[List.length_append,List.length_append,hlen2,List.length_map,hlz],fun k o hk=>?_⟩ (fun i hi=>?_) (hR.3.trans hsame3),fun d=>⟨hsame3,fun k hk hkc=>?_,hsize,fun b hlt hb=>?_,fun b hb=>?_,fun _ _=>rfl⟩⟩
 ·rcases Nat.lt_or_ge k (bN ob K ok).length with hlt | hge
  ·rw[List.getElem?_append_left hlt]at hk
   rw[happ (by rw[←hlen2];exact hlt)]
   rw[eD]at hlt
   by_cases hkK:k∈K
   ·obtain⟨i,hi⟩:=List.mem_iff_getElem?.1 hkK
    rw[iQ hnd hlob' hi hlt]at hk
    have hil:i<lent'.length:=by rw[hlK];exact(List.getElem?_eq_some_iff.1 hi).1
    obtain⟨l',q0,q2⟩:=pR hbk (List.getElem?_eq_getElem hil)
    rw[q2]at hk
    injection hk with hk
    injection hk with hk
    subst hk
    have q1:=hsh.1.2 i (lent'[i]).ob (by rw[eO,List.getElem?_eq_getElem hil];rfl)
    rw[hcoK i k hi]
    have q3:Az K cl (cT cs K cl++csn):=fun i k hi=>by
     have hkl:=hKl k (List.mem_of_getElem? hi)
     have hkp:k<(cT cs K cl).length:=by rw[jJ,←hlen];exact hkl
     exact⟨by rw[List.length_append];omega,by rw[happ hkp,hcoK i k hi]⟩
    exact⟨cA (fun _ _=>rfl) (fun b hb=>hfree b hb.2.1 hb.2.2) .refl _ _ (Jt q3 q0 q1.1),fun h=>⟨(tY q0).1 (q1.2 h).1,(q1.2 h).2⟩⟩
   rw[eZ hkK]at hk
   rw[kX hkK]
   have q1:=hR.obs.2 k o hk
   exact⟨cA hkeep hfr hsame3 _ _ q1.1,q1.2⟩
  rw[List.getElem?_append_right hge]at hk
  have ho:oz[k-(bN ob K ok).length]? =some o:=by
   rw[List.getElem?_map]at hk
   cases hq:oz[k-(bN ob K ok).length]? with
   | none=>rw[hq]at hk;cases hk
   | some o'=>
    rw[hq]at hk
    simp at hk
    rw[hk]
  have q1:=hoz _ o ho
  have e:co (cT cs K cl++csn) k=co csn (k-(bN ob K ok).length):=by
   unfold co
   rw[List.getElem?_append_right (by rw[←hlen2];exact hge),hlen2]
  rw[e]
  exact q1
 ·obtain⟨u,q1,q2⟩:=hR.fv hi
  exact⟨u,q1,dO hkeep hfr hsame3 _ _ q2⟩
 ·rw[happ (by rw[jJ];exact hkc),kX hk]
 ·refine h3.chg.block b hlt fun hm=>?_
  obtain⟨r,hr,hbr⟩:=List.mem_flatMap.1 hm
  obtain⟨i,hi⟩:=List.mem_iff_getElem?.1 hr
  have hil:=(List.getElem?_eq_some_iff.1 hi).1
  have hil2:i<K.length:=by
   rw[dP (by simp[hlobs])]at hil
   simpa using hil
  obtain⟨a,l',q1,_,q2⟩:=hgetL i K[i] (List.getElem?_eq_getElem hil2)
  have e1:(aV lent)[i]? =some (some a.ob):=by rw[eO,q1];rfl
  rw[aS (by simp[hlobs]) e1,iI (List.getElem?_eq_getElem hil2)]at hi
  injection hi with hi
  subst hi
  rw[show aI (some a.ob) (co cs K[i])=aI (some ⟨a.t,a.z,l'⟩) (co cs K[i]) from kB _ _]at hbr
  exact hb K[i] (List.getElem_mem hil2) _ q2 hbr
 have q1:=hin2 b hb
 rw[List.flatMap_append,List.mem_append]at q1
 rcases q1 with q1 | q1
 ·rcases(h3.blk b q1).1 with q2 | q2
  ·exact .inl (hlentS b q2)
  exact .inr q2
 exact .inl (hrest b q1)
end
end Go.Proofs.YteggpgndiajdpaaGreatDoor
