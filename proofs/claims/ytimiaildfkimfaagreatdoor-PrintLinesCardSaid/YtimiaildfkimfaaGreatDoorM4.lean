/- Part 4 of a proof: Av18 to Av21. -/
import Derived.Test.YtimiaildfkimfaaGreatDoorM3
import Derived.Test.YtimiaildfkimfaaGreatDoorChecked
set_option maxRecDepth 100000
set_option linter.unusedVariables false
set_option linter.unusedSimpArgs false
namespace Go.Proofs.YtimiaildfkimfaaGreatDoor
open Go Go.RowKit
section
variable {x:Cx}{g g':Nat->FV}{ob ob':List (Option Ob)}{cs cs':List Co}{ts ts':Array Value}{W W':World}{T:List (Nat×TI)}{Q:Post}{ops:Array Oper}{d:Nat}{op:Op}{ty:TypeId}{pos:String}{af:Array Edge}{gd:Option (Nat×Bool)}{late:Nat->Bool}{K fr:List Nat}{on:Bool}{fuel:Nat}{listed:Array Bool}
theorem yV {v:FV}:∀j,some d≠some j->bG g d v j=g j:=fun j hj=>by
 have hb:Nat.beq j d=false:=by
  cases hq:Nat.beq j d
  ·rfl
  exact absurd (by rw[Nat.eq_of_beq_eq_true hq]) hj
 simp[bG,hb]
theorem dn (i:Nat) (hi:ops[i]? =some ⟨some d,op,ty,pos,af,gd⟩) (hst:pY ops late listed i=true) (hw:bK ops x.n g gd=some false)
  (k:WD x ops Q late K fr true fuel (listed.setIfInBounds i true) (bG g d (.one (tv undef))) ob):WD x ops Q late K fr true (fuel+1) listed g ob:=by
 intro Kp W1 cs ts W hR hK1 hK2 hon
 have hk:=hon rfl
 simp only[pY,Bool.and_eq_true]at hst
 obtain⟨s1,s2,s3,s4⟩:=hst
 exact Bl hi (Region.noSelect_spec s1) (fun c a w h=>h) (fun j oj hj hlj=>vG s4 j oj hj hlj) fuel listed _ W (Region.free_spec hi s2) (by simpa using s3) (.inr ⟨lW hw hR,rfl⟩) hk.same
  (k Kp W1 cs _ W (hR.put d (v:=.one (tv undef)) (jX (by simp[tv,AR,FR]))) hK1 hK2 fun _=>hk.put hR.1 (v:=.one (tv undef)) (jX (by simp[tv,AR,FR])))
theorem WD.split {t:Nat}{p:Prop} [Decidable p] (h:lk x.n g (.tmp t)=.one (tv (.bool (decide p)))) (ht:g t=.one (tv (.bool (decide p)))) (h1:p->WD x ops Q late K fr on fuel listed (bG g t (.one (tv (.bool true)))) ob) (h2:¬p->WD x ops Q late K fr on fuel listed (bG g t (.one (tv (.bool false)))) ob):WD x ops Q late K fr on fuel listed g ob:=by
 have key:∀b:Bool,decide p=b->bG g t (.one (tv (.bool b)))=g:=fun b hb=>by
  funext i
  unfold bG
  cases hq:Nat.beq i t
  ·rfl
  rw[Nat.eq_of_beq_eq_true hq,ht,hb]
  rfl
 by_cases hp:p
 ·rw[<-key true (by simp[hp])]
  exact h1 hp
 rw[<-key false (by simp[hp])]
 exact h2 hp
theorem WL.split {t:Nat}{rest:List Oper}{p:Prop} [Decidable p] (ht:g t=.one (tv (.bool (decide p)))) (h1:p->WL x ops rest (bG g t (.one (tv (.bool true)))) ob Q) (h2:¬p->WL x ops rest (bG g t (.one (tv (.bool false)))) ob Q):WL x ops rest g ob Q:=by
 have key:∀b:Bool,decide p=b->bG g t (.one (tv (.bool b)))=g:=fun b hb=>by
  funext i
  unfold bG
  cases hq:Nat.beq i t
  ·rfl
  rw[Nat.eq_of_beq_eq_true hq,ht,hb]
  rfl
 by_cases hp:p
 ·rw[<-key true (by simp[hp])]
  exact h1 hp
 rw[<-key false (by simp[hp])]
 exact h2 hp
def XZ (K:List Nat) (ob:List (Option Ob)):Bool:=K.all fun k=>Nat.blt k ob.length
theorem PK {o:Option Ob}{l:List (Option Ob)}(h:XZ K ob=true) (k:Nat) (hk:k∈K):(ob++l)[k]? =ob[k]? :=by
 have:=List.all_eq_true.1 h k hk
 have hlt:k<ob.length:=by simpa[Nat.blt,Nat.lt_iff_add_one_le]using this
 exact List.getElem?_append_left hlt
def nO (ob ob':List (Option Ob)):List Nat->Prop
 | []=>True
 | k::K=>ob'[k]? =ob[k]? /\nO ob ob' K
theorem lN:∀{K:List Nat},nO ob ob' K->∀k∈K,ob'[k]? =ob[k]?
 | [],_,k,hk=>by simp at hk
 | k0::K,h,k,hk=>by
  rcases List.mem_cons.1 hk with rfl | hk
  ·exact h.1
  exact lN h.2 k hk
theorem Rg {o:Oper}{R:(Nat->FV)->List (Option Ob)->Prop}{v:FV}(i:Nat) (hr:Region.ready .any ops listed=[i]) (hi:ops[i]? =some o) (hd:o.dst=some d) (hw:bK ops x.n g o.guard=some true) (h:OS x o g ob [] R)
  (hg:∀g' ob',R g' ob'->g'=bG g d v/\∀k∈K,ob'[k]? =ob[k]?) (k:∀g' ob',R g' ob'->WD x ops Q late K (d::fr) true fuel (listed.setIfInBounds i true) g' ob'):WD x ops Q late K fr true (fuel+1) listed g ob:=by
 refine Mc i hr hi hw h true (fun _=>⟨rfl,fun _ _ h=>by simp at h⟩) (fun _=>rfl) (fun _ g' ob' hR=>?_) fun g' ob' hR=>by rw[hd];exact k g' ob' hR
 obtain⟨h1,h2⟩:=hg g' ob' hR
 exact⟨by rw[hd,h1];exact yV,h2⟩
theorem YA {fresh:Bool}{f:FuncId}{args:List FV}{r v:FV}{aa:Array Operand}{ats:Array TypeId}(i:Nat) (hr:Region.ready .any ops listed=[i]) (hi:ops[i]? =some ⟨some d,.call ⟨.value (.func f),aa,ats⟩,ty,pos,af,gd⟩) (hw:bK ops x.n g gd=some true) (hS:aE fresh x.P f [] args (aP r)) (hf:CallOk x.P f) (ha:AL fresh x g ob aa.toList args) (hv:yF r=v)
  (k:WD x ops Q late K (d::fr) true fuel (listed.setIfInBounds i true) (bG g d v) ob):WD x ops Q late K fr true (fuel+1) listed g ob:=
 Rg (v:=v) i hr hi rfl hw (Eg hS hf ha) (by rintro _ _ ⟨r',rfl,rfl,rfl⟩;exact⟨by rw[hv],fun _ _=>rfl⟩) (by rintro _ _ ⟨r',rfl,rfl,rfl⟩;rw[hv];exact k)
theorem aCS {t key:Nat}(i:Nat) (hr:Region.ready .any ops listed=[i]) (hi:ops[i]? =some ⟨some d,.alloc t,ty,pos,af,gd⟩) (hw:bK ops x.n g gd=some true) (hT:cH x.P T) (h:Cm T t key ob=some ob') (hke:nO ob ob' K)
  (k:WD x ops Q late K (d::fr) true fuel (listed.setIfInBounds i true) (bG g d (.one (.pt key 0))) ob'):WD x ops Q late K fr true (fuel+1) listed g ob:=
 Rg (v:=.one (.pt key 0)) i hr hi rfl hw (Yu hT h) (by rintro _ _ ⟨rfl,rfl⟩;exact⟨rfl,lN hke⟩) (by rintro _ _ ⟨rfl,rfl⟩;exact k)
theorem Za {o:Oper}{R:(Nat->FV)->List (Option Ob)->Prop}{v:FV}(i:Nat) (hi:ops[i]? =some o) (hd:o.dst=some d) (hw:bK ops x.n g o.guard=some true) (h:OS x o g ob [] R)
  (hg:∀g' ob',R g' ob'->g'=bG g d v/\∀k∈K,ob'[k]? =ob[k]?) (k:∀g' ob',R g' ob'->WD x ops Q late K (d::fr) true fuel (listed.setIfInBounds i true) g' ob'):WO x ops Q late K fr true fuel listed i g ob:=by
 refine JQ i hi hw h true (fun _=>⟨rfl,fun _ _ h=>by simp at h⟩) (fun _=>rfl) (fun _ g' ob' hR=>?_) fun g' ob' hR=>by rw[hd];exact k g' ob' hR
 obtain⟨h1,h2⟩:=hg g' ob' hR
 exact⟨by rw[hd,h1];exact yV,h2⟩
theorem YB {fresh:Bool}{f:FuncId}{args:List FV}{r v:FV}{aa:Array Operand}{ats:Array TypeId}(i:Nat) (hi:ops[i]? =some ⟨some d,.call ⟨.value (.func f),aa,ats⟩,ty,pos,af,gd⟩) (hw:bK ops x.n g gd=some true) (hS:aE fresh x.P f [] args (aP r)) (hf:CallOk x.P f) (ha:AL fresh x g ob aa.toList args) (hv:yF r=v)
  (k:WD x ops Q late K (d::fr) true fuel (listed.setIfInBounds i true) (bG g d v) ob):WO x ops Q late K fr true fuel listed i g ob:=
 Za (v:=v) i hi rfl hw (Eg hS hf ha) (by rintro _ _ ⟨r',rfl,rfl,rfl⟩;exact⟨by rw[hv],fun _ _=>rfl⟩) (by rintro _ _ ⟨r',rfl,rfl,rfl⟩;rw[hv];exact k)
theorem aCT {t key:Nat}(i:Nat) (hi:ops[i]? =some ⟨some d,.alloc t,ty,pos,af,gd⟩) (hw:bK ops x.n g gd=some true) (hT:cH x.P T) (h:Cm T t key ob=some ob') (hke:nO ob ob' K)
  (k:WD x ops Q late K (d::fr) true fuel (listed.setIfInBounds i true) (bG g d (.one (.pt key 0))) ob'):WO x ops Q late K fr true fuel listed i g ob:=
 Za (v:=.one (.pt key 0)) i hi rfl hw (Yu hT h) (by rintro _ _ ⟨rfl,rfl⟩;exact⟨rfl,lN hke⟩) (by rintro _ _ ⟨rfl,rfl⟩;exact k)
theorem dA {t len key:Nat}{ps:Array (Nat×Operand)}(i:Nat) (hr:Region.ready .any ops listed=[i]) (hi:ops[i]? =some ⟨some d,.buildSlice t len ps,ty,pos,af,gd⟩) (hw:bK ops x.n g gd=some true) (hT:cH x.P T) (h:Rb T x.n g t len key ps.toList ob=some ob') (hke:nO ob ob' K)
  (k:WD x ops Q late K (d::fr) true fuel (listed.setIfInBounds i true) (bG g d (.one (.sl key 0 len))) ob'):WD x ops Q late K fr true (fuel+1) listed g ob:=
 Rg (v:=.one (.sl key 0 len)) i hr hi rfl hw (LG hT h) (by rintro _ _ ⟨rfl,rfl⟩;exact⟨rfl,lN hke⟩) (by rintro _ _ ⟨rfl,rfl⟩;exact k)
theorem d_v {C:Prop}{v:FV}(i:Nat) (hr:Region.ready .any ops listed=[i]) (hi:ops[i]? =some ⟨some d,op,ty,pos,af,gd⟩) (hw:bK ops x.n g gd=some true) (hT:cH x.P T) (h:yP T x.n g op=some (C,v)) (hC:C)
  (k:WD x ops Q late K (d::fr) on fuel (listed.setIfInBounds i true) (bG g d v) ob) (hl:late i=false->on=true):WD x ops Q late K fr on (fuel+1) listed g ob:=by
 refine Mc i hr hi hw (GR hT h hC) on (fun h=>⟨h,fun _ _ h=>by simp at h⟩) hl (fun _ g' ob' hR=>?_) fun g' ob' hR=>?_
 ·obtain⟨rfl,rfl⟩:=hR
  exact⟨yV,fun _ _=>rfl⟩
 obtain⟨rfl,rfl⟩:=hR
 exact k
theorem aCU {t:Nat}{ti:TI}{a b:Operand}(i:Nat) (hr:Region.ready .any ops listed=[i]) (hi:ops[i]? =some ⟨none,.store t a b,ty,pos,af,gd⟩) (hw:bK ops x.n g gd=some true) (hT:cH x.P T) (hti:bX T t=some ti) (h:zI ti ob (lk x.n g b) (lk x.n g a)=some ob') (hl:late i=true)
  (k:WD x ops Q late K fr false fuel (listed.setIfInBounds i true) g ob'):WD x ops Q late K fr on (fuel+1) listed g ob:=by
 obtain⟨ky,hs,_⟩:=Nl (ty:=ty) (pos:=pos) (af:=af) (gd:=gd) hT hti h
 refine Mc i hr hi hw hs false (fun h=>by cases h) (fun h=>by rw[hl]at h;cases h) (fun h=>by cases h) fun g' ob' hR=>?_
 obtain⟨rfl,rfl⟩:=hR
 exact k
theorem aBu {t key o:Nat}{ti:TI}{a b:Operand}(i:Nat) (hr:Region.ready .any ops listed=[i]) (hi:ops[i]? =some ⟨none,.store t a b,ty,pos,af,gd⟩) (hw:bK ops x.n g gd=some true) (hT:cH x.P T) (hti:bX T t=some ti) (h:zI ti ob (lk x.n g b) (lk x.n g a)=some ob') (hlk:lk x.n g a=.one (.pt key o)) (hK:K.contains key=false) (hke:nO ob ob' K)
  (k:WD x ops Q late K fr true fuel (listed.setIfInBounds i true) g ob'):WD x ops Q late K fr true (fuel+1) listed g ob:=by
 obtain⟨ky,hs,o2,hlk2⟩:=Nl (ty:=ty) (pos:=pos) (af:=af) (gd:=gd) hT hti h
 rw[hlk]at hlk2
 injection hlk2 with e
 injection e with e1 e2
 subst e1
 refine Mc i hr hi hw hs true (fun _=>⟨rfl,fun k hk hm=>?_⟩) (fun _=>rfl) (fun _ g' ob' hR=>?_) fun g' ob' hR=>?_
 ·rw[List.mem_singleton]at hm
  subst hm
  have:K.contains k=true:=by simpa using hk
  rw[hK]at this
  cases this
 ·obtain⟨rfl,rfl⟩:=hR
  exact⟨fun _ _=>rfl,lN hke⟩
 obtain⟨rfl,rfl⟩:=hR
 exact k
theorem WL.splitb {t:Nat}{rest:List Oper}{b:Bool}(ht:g t=.one (tv (.bool b))) (h1:b=true->WL x ops rest (bG g t (.one (tv (.bool true)))) ob Q) (h2:b=false->WL x ops rest (bG g t (.one (tv (.bool false)))) ob Q):WL x ops rest g ob Q:=by
 have key:∀b':Bool,b=b'->bG g t (.one (tv (.bool b')))=g:=fun b' hb=>by
  funext i
  unfold bG
  cases hq:Nat.beq i t
  ·rfl
  rw[Nat.eq_of_beq_eq_true hq,ht,hb]
  rfl
 cases hb:b
 ·rw[<-key false hb]
  exact h2 hb
 rw[<-key true hb]
 exact h1 hb
theorem WD.splitb {t:Nat}{b:Bool}(ht:g t=.one (tv (.bool b))) (h1:b=true->WD x ops Q late K fr on fuel listed (bG g t (.one (tv (.bool true)))) ob) (h2:b=false->WD x ops Q late K fr on fuel listed (bG g t (.one (tv (.bool false)))) ob):WD x ops Q late K fr on fuel listed g ob:=by
 have key:∀b':Bool,b=b'->bG g t (.one (tv (.bool b')))=g:=fun b' hb=>by
  funext i
  unfold bG
  cases hq:Nat.beq i t
  ·rfl
  rw[Nat.eq_of_beq_eq_true hq,ht,hb]
  rfl
 cases hb:b
 ·rw[<-key false hb]
  exact h2 hb
 rw[<-key true hb]
 exact h1 hb
theorem WL.cast {t:Nat}{rest:List Oper}{u u':Value}(ht:g t=.one (tv u)) (e:u=u') (k:WL x ops rest (bG g t (.one (tv u'))) ob Q):WL x ops rest g ob Q:=by
 have:bG g t (.one (tv u'))=g:=by
  funext i
  unfold bG
  cases hq:Nat.beq i t
  ·rfl
  rw[Nat.eq_of_beq_eq_true hq,ht,e]
  rfl
 rwa[this]at k
theorem WD.cast {t:Nat}{u u':Value}(ht:g t=.one (tv u)) (e:u=u') (k:WD x ops Q late K fr on fuel listed (bG g t (.one (tv u'))) ob):WD x ops Q late K fr on fuel listed g ob:=by
 have:bG g t (.one (tv u'))=g:=by
  funext i
  unfold bG
  cases hq:Nat.beq i t
  ·rfl
  rw[Nat.eq_of_beq_eq_true hq,ht,e]
  rfl
 rwa[this]at k
theorem dN {k:IntKind}{a b:Int}(h:a=b):Value.int k a=.int k b:=by rw[h]
theorem Sub.trans {g2:Nat->FV}{ob2:List (Option Ob)}(h:Sub x g ob g' ob') (h':Sub x g' ob' g2 ob2):Sub x g ob g2 ob2:=fun ts W hR=>h' ts W (h ts W hR)
theorem nr {i:Nat}(key e z:Nat) (hz:Nat.beq z 0=false) (hk:eM ob key=true) (hi:Nat.blt i x.n=true) (hg:g i=.one (tv (.slice none 0 0))):Sub x g ob (bG g i (.one (.sl key 0 0))) (ob++[some ⟨e,z,[]⟩]):=by
 rintro ts W ⟨cs,hR⟩
 have hk:=Nat.eq_of_beq_eq_true hk
 have hi:i<x.n:=by simpa[Nat.blt,Nat.lt_iff_add_one_le]using hi
 have hz0:z≠0:=fun e=>by subst e;simp at hz
 have m1:=hR.push (Below.refl _ _) ⟨e,z,[]⟩ ⟨none,0,[]⟩ (by simp[aQ]) (by simp[aQ]) (by simp[aQ]) (by simp[bZ]) (fun _=>⟨rfl,hz0⟩)
 obtain⟨u,h1,h2⟩:=hR.fv hi
 rw[hg]at h2
 have h2:=bE h2
 subst h2
 have m2:=m1.put i (v:=.one (.sl key 0 0)) (u:=.slice none 0 0) (by
  refine jX ?_
  simp only[AR]
  rw[<-hk,hR.len,iT]
  exact⟨by simp,by trivial,by trivial,by trivial⟩)
 have e:ts.setIfInBounds i (.slice none 0 0)=ts:=by
  apply Array.ext_getElem?
  intro j
  rw[Array.getElem?_setIfInBounds]
  split
  ·rename_i e
   subst e
   split
   ·exact h1.symm
   rename_i h9
   rw[hR.1]at h9
   exact absurd hi h9
  rfl
 rw[e]at m2
 exact⟨_,m2⟩
theorem LH {t e z by_ n m j:Nat}{zz:Value}{ti:Bool}{ts0:Nat}{z0:List Value}{a b:Operand}{av bv:AV}{l news:List AV}(i:Nat) (hi:ops[i]? =some ⟨some d,.call ⟨.builtin .append, #[a,b], #[t,t]⟩,ty,pos,af,gd⟩) (hT:cH x.P T) (ht:bX T t=some ⟨ti,ts0,z0,.sl e z by_ zz⟩) (ha:lk x.n g a=.one av) (hb:lk x.n g b=.one bv)
  (hd:DstA ob e z av n ob' l) (hs:SrcA ob z bv m news) (hrd:fQ news=true) (hlo:dR news=true) (hbytes:(n+m)*by_<=140737488355328) (h63:n+m<=140737488355328) (hK:K=[]) (hj:eM ob j=true) (hr:Region.ready .any ops listed=[i]) (hw:bK ops x.n g gd=some true)
  (k:WD x ops Q late K (d::fr) true fuel (listed.setIfInBounds i true) (bG g d (.one (.sl j 0 (n+m)))) (ob'++[some ⟨e,z,l++news⟩])):WD x ops Q late K fr true (fuel+1) listed g ob:=by
 subst hK
 obtain⟨Wr,h,_⟩:=Rc (d:=d) (ty:=ty) (pos:=pos) (af:=af) (gd:=gd) hT ht ha hb hd hs hrd hlo hj hbytes h63
 refine Mc i hr hi hw h true (fun _=>⟨rfl,fun _ h=>by simp at h⟩) (fun _=>rfl) (fun _ g' ob' hR=>?_) fun g' ob' hR=>?_
 ·obtain⟨rfl,rfl⟩:=hR
  exact⟨yV,fun _ h=>by simp at h⟩
 obtain⟨rfl,rfl⟩:=hR
 exact k
def inK (K:List Nat):AV->Bool
 | .sl k _ _=>K.contains k
 | _=>false
theorem iB {t e z by_ n m j:Nat}{zz:Value}{ti:Bool}{ts0:Nat}{z0:List Value}{a b:Operand}{av bv:AV}{l news:List AV}(i:Nat) (hi:ops[i]? =some ⟨some d,.call ⟨.builtin .append, #[a,b], #[t,t]⟩,ty,pos,af,gd⟩) (hT:cH x.P T) (ht:bX T t=some ⟨ti,ts0,z0,.sl e z by_ zz⟩) (ha:lk x.n g a=.one av) (hb:lk x.n g b=.one bv)
  (hd:DstA ob e z av n ob' l) (hs:SrcA ob z bv m news) (hrd:fQ news=true) (hlo:dR news=true) (hbytes:(n+m)*by_<=140737488355328) (h63:n+m<=140737488355328) (hK:inK K av=false) (hke:nO ob (ob'++[some ⟨e,z,l++news⟩]) K) (hj:eM ob j=true) (hr:Region.ready .any ops listed=[i]) (hw:bK ops x.n g gd=some true)
  (k:WD x ops Q late K (d::fr) true fuel (listed.setIfInBounds i true) (bG g d (.one (.sl j 0 (n+m)))) (ob'++[some ⟨e,z,l++news⟩])):WD x ops Q late K fr true (fuel+1) listed g ob:=by
 obtain⟨Wr,h,h9⟩:=Rc (d:=d) (ty:=ty) (pos:=pos) (af:=af) (gd:=gd) hT ht ha hb hd hs hrd hlo hj hbytes h63
 refine Mc i hr hi hw h true (fun _=>⟨rfl,fun k hk hm=>?_⟩) (fun _=>rfl) (fun _ g' ob' hR=>?_) fun g' ob' hR=>?_
 ·have h8:=h9 k hm
  subst h8
  have:K.contains k=true:=by simpa using hk
  simp[inK,hk]at hK
 ·obtain⟨rfl,rfl⟩:=hR
  exact⟨yV,lN hke⟩
 obtain⟨rfl,rfl⟩:=hR
 exact k
end
def Ct (k:Nat):AV->Option (AV×List Ob)
 | .t (.s true t z n l)=>match Nat.beq z 0 with
  | false=>some (.sl k 0 n,[⟨t,z,l.map .t⟩])
  | true=>none
 | .t (.p true t l)=>some (.pt k 0,[⟨t,0,l.map .t⟩])
 | .t (.s false t z n l)=>some (.t (.s false t z n l),[])
 | .t (.p false t l)=>some (.t (.p false t l),[])
 | .t (.v v)=>some (.t (.v v),[])
 | .t (.f g l0 l)=>some (.t (.f g l0 l),[])
 | _=>none
def tZ (k:Nat):List AV->Option (List AV×List Ob)
 | []=>some ([],[])
 | a::l=>match Ct k a with
  | some (a',[])=>match tZ k l with
   | some (l',os)=>some (a'::l',os)
   | none=>none
  | some (a',o::_)=>match tZ (k+1) l with
   | some (l',os)=>some (a'::l',o::os)
   | none=>none
  | none=>none
def lY:VT->Co
 | .w _=>⟨none,0,[]⟩
 | .s b c _ _ _ l=>⟨some b,c,l⟩
 | .p b _ l=>⟨some b,0,l⟩
section
variable {W:World}{N:Nat->Prop}
theorem Eh {k:Nat}{a a':AV}{os:List Ob}{y:VT}(hc:CR W N [] a y) (hok:y.ok W) (h:Ct k a=some (a',os)):
  (os=[]/\y.fp=[]/\∀(N':Nat->Prop) (cs:List Co),(∀b,N b->N' b)->AR W N' cs a' y.val)\/
  (∃o,os=[o]/\(aQ (some o) (lY y)).S=y.fp/\(aQ (some o) (lY y)).φ W/\(∀(N':Nat->Prop) (cs:List Co),(∀b,N b->N' b)->k<cs.length->co cs k=lY y->AR W N' cs a' y.val/\bZ W N' cs o.l (lY y).l)/\((lY y).b=none->o.l=[]/\o.z≠0)):=by
 unfold Ct at h
 split at h
 ·rename_i t z n l
  split at h
  ·rename_i hz
   injection h with h
   injection h with h1 h2
   subst h1 h2
   refine .inr ⟨_,rfl,?_⟩
   have hz0:z≠0:=fun e=>by subst e;simp at hz
   simp only[CR]at hc
   cases y with
   | w u=>
    simp only[OR]at hc
    rcases hc with⟨_,rfl,rfl,rfl⟩ | ⟨hc,_⟩
    ·refine⟨rfl,by simp[aQ,lY],fun N' cs hN hk hco=>⟨?_,by simp[bZ,lY]⟩,fun _=>⟨rfl,hz0⟩⟩
     simp only[AR,hco,lY,VT.val]
     exact⟨hk,by trivial,by trivial,by trivial⟩
    cases hc
   | s b c t' z' n' l'=>
    simp only[OR]at hc
    obtain⟨_,rfl,rfl,rfl,hl⟩:=hc
    simp only[VT.ok]at hok
    obtain⟨k1,k2,k3,k4,k5⟩:=hok
    refine⟨rfl,?_,fun N' cs hN hk hco=>⟨?_,Ki (ORL_keep (fun _ _=>rfl) hN _ _ hl)⟩,fun h=>by cases h⟩
    ·simp only[aQ,lY]
     rw[hz,cond_false]
     exact⟨k1,k5,k3⟩
    simp only[AR,hco,lY,VT.val]
    exact⟨hk,0,c,rfl,k2,by unfold maxLen at k3;omega,fun _=>rfl,fun _=>rfl⟩
   | p b t' l'=>simp only[OR]at hc
  cases h
 ·rename_i t l
  injection h with h
  injection h with h1 h2
  subst h1 h2
  refine .inr ⟨_,rfl,?_⟩
  simp only[CR]at hc
  cases y with
  | w u=>
   simp only[OR]at hc
   cases hc.1
  | s b c t' z' n' l'=>simp only[OR]at hc
  | p b t' l'=>
   simp only[OR]at hc
   obtain⟨_,rfl,hl⟩:=hc
   simp only[VT.ok]at hok
   refine⟨rfl,?_,fun N' cs hN hk hco=>⟨?_,Ki (ORL_keep (fun _ _=>rfl) hN _ _ hl)⟩,fun h=>by cases h⟩
   ·simp only[aQ,lY]
    exact⟨hok.1,hok.2,Nat.zero_le _⟩
   simp only[AR,hco,lY,VT.val]
   exact⟨b,rfl,rfl⟩
 ·injection h with h
  injection h with h1 h2
  subst h1 h2
  have hr:=Ip hc rfl
  refine .inl ⟨rfl,?_,fun N' cs hN=>kJ (fun _ _=>rfl) hN ⟨Nat.zero_le _,fun k hk=>by simp at hk⟩ _ _ hr⟩
  simp only[CR]at hc
  cases y with
  | w u=>rfl
  | s=>simp only[OR]at hc;cases hc.1
  | p=>simp only[OR]at hc
 ·injection h with h
  injection h with h1 h2
  subst h1 h2
  have hr:=Ip hc rfl
  refine .inl ⟨rfl,?_,fun N' cs hN=>kJ (fun _ _=>rfl) hN ⟨Nat.zero_le _,fun k hk=>by simp at hk⟩ _ _ hr⟩
  simp only[CR]at hc
  cases y with
  | w u=>rfl
  | s=>simp only[OR]at hc
  | p=>simp only[OR]at hc;cases hc.1
 ·injection h with h
  injection h with h1 h2
  subst h1 h2
  have hr:=Ip hc rfl
  refine .inl ⟨rfl,?_,fun N' cs hN=>kJ (fun _ _=>rfl) hN ⟨Nat.zero_le _,fun k hk=>by simp at hk⟩ _ _ hr⟩
  simp only[CR,OR]at hc
  subst hc
  rfl
 ·injection h with h
  injection h with h1 h2
  subst h1 h2
  have hr:=Ip hc rfl
  refine .inl ⟨rfl,?_,fun N' cs hN=>kJ (fun _ _=>rfl) hN ⟨Nat.zero_le _,fun k hk=>by simp at hk⟩ _ _ hr⟩
  simp only[CR]at hc
  cases y with
  | w u=>rfl
  | s=>simp only[OR]at hc
  | p=>simp only[OR]at hc
 cases h
theorem Ei:∀{l l':List AV}{k:Nat}{os:List Ob}{ys:List VT},bZ W N [] l ys->VT.okL W ys->tZ k l=some (l',os)->∃cs2:List Co,cs2.length=os.length/\(aL (os.map some) cs2).flatMap Res.S=VT.fpL ys/\(∀r∈aL (os.map some) cs2,r.φ W)/\
  ∀(N':Nat->Prop) (cs:List Co),(∀b,N b->N' b)->k+os.length<=cs.length->(∀i,i<os.length->co cs (k+i)=co cs2 i)->ARL W N' cs l' (ys.map VT.val)/\∀(i:Nat) (o:Ob),os[i]? =some o->bZ W N' cs o.l (co cs2 i).l/\((co cs2 i).b=none->o.l=[]/\o.z≠0)
 | [],l',k,os,ys,hc,hok,h=>by
  simp only[bZ]at hc
  subst hc
  simp[tZ]at h
  obtain⟨rfl,rfl⟩:=h
  exact⟨[],rfl,rfl,by simp[aL],fun N' cs hN hk hco=>⟨by simp[ARL],fun i o ho=>by simp at ho⟩⟩
 | a::l,l',k,os,[],hc,hok,h=>by simp only[bZ]at hc
 | a::l,l',k,os,y::ys,hc,hok,h=>by
  simp only[bZ]at hc
  simp only[VT.okL]at hok
  unfold tZ at h
  split at h
  ·rename_i a' ha
   split at h
   ·rename_i l2 os2 hl
    injection h with h
    injection h with h1 h2
    subst h1 h2
    obtain⟨cs2,e1,e2,e3,e4⟩:=Ei hc.2 hok.2 hl
    rcases Eh hc.1 hok.1 ha with⟨_,f1,f2⟩ | ⟨o,f1,_⟩
    ·refine⟨cs2,e1,by rw[e2];simp[VT.fpL,f1],e3,fun N' cs hN hk hco=>?_⟩
     obtain⟨g1,g2⟩:=e4 N' cs hN hk hco
     simp only[List.map_cons,ARL]
     exact⟨⟨f2 N' cs hN,g1⟩,g2⟩
    cases f1
   cases h
  ·rename_i a' o os0 ha
   split at h
   ·rename_i l2 os2 hl
    injection h with h
    injection h with h1 h2
    subst h1 h2
    obtain⟨cs2,e1,e2,e3,e4⟩:=Ei hc.2 hok.2 hl
    rcases Eh hc.1 hok.1 ha with⟨f1,_⟩ | ⟨o',f1,f2,f3,f4,f5⟩
    ·cases f1
    injection f1 with f1 _
    subst f1
    refine⟨lY y::cs2,by simp[e1],?_,?_,fun N' cs hN hk hco=>?_⟩
    ·unfold aL at e2⊢
     simp only[List.map_cons,List.zipWith_cons_cons,List.flatMap_cons,VT.fpL,f2,e2]
    ·unfold aL at e3⊢
     simp only[List.map_cons,List.zipWith_cons_cons]
     intro r hr
     rcases List.mem_cons.1 hr with rfl | hr
     ·exact f3
     exact e3 r hr
    simp only[List.length_cons]at hk hco
    have h0:=hco 0 (by omega)
    obtain⟨g1,g2⟩:=f4 N' cs hN (by omega) h0
    obtain⟨g3,g4⟩:=e4 N' cs hN (by omega) (fun i hi=>by
     have:=hco (i+1) (by omega)
     rw[show k+(i+1)=k+1+i by omega]at this
     rw[this]
     simp[co])
    simp only[List.map_cons,ARL]
    refine⟨⟨g1,g3⟩,fun i o ho=>?_⟩
    cases i with
    | zero=>
     simp at ho
     subst ho
     exact⟨g2,f5⟩
    | succ i=>
     have:=g4 i o (by simpa using ho)
     simpa[co]using this
   cases h
  cases h
end
def Cu (k:Nat):FV->Option (FV×List Ob)
 | .one a=>match Ct k a with
  | some (a',os)=>some (.one a',os)
  | none=>none
 | .agg l=>match tZ k l with
  | some (l',os)=>some (.agg l',os)
  | none=>none
 | _=>none
def Gh (k:Nat):List FV->Option (List FV×List Ob)
 | []=>some ([],[])
 | a::l=>match Cu k a with
  | some (a',os)=>match Gh (k+os.length) l with
   | some (l',os')=>some (a'::l',os++os')
   | none=>none
  | none=>none
def oU (k:Nat):FV->Option (FV×List Ob)
 | .tup l=>match Gh k l with
  | some (l',os)=>some (.tup l',os)
  | none=>none
 | v=>Cu k v
section
variable {W:World}{N:Nat->Prop}
def Bnd (W:World) (N:Nat->Prop) (k:Nat) (os:List Ob) (ys:List VT) (A:(Nat->Prop)->List Co->Prop):Prop:=∃cs2:List Co,cs2.length=os.length/\(aL (os.map some) cs2).flatMap Res.S=VT.fpL ys/\(∀r∈aL (os.map some) cs2,r.φ W)/\
  ∀(N':Nat->Prop) (cs:List Co),(∀b,N b->N' b)->k+os.length<=cs.length->(∀i,i<os.length->co cs (k+i)=co cs2 i)->A N' cs/\∀(i:Nat) (o:Ob),os[i]? =some o->bZ W N' cs o.l (co cs2 i).l/\((co cs2 i).b=none->o.l=[]/\o.z≠0)
theorem Kk {k:Nat}{r v:FV}{os:List Ob}{u:Value}{ys:List VT}(hr:Bf W N [] r u ys) (hok:VT.okL W ys) (h:Cu k r=some (v,os)):Bnd W N k os ys (fun N' cs=>cE W N' cs v u):=by
 cases r with
 | any=>exact hr.elim
 | tup l=>exact hr.elim
 | one a=>
  obtain⟨z,rfl,rfl,hc⟩:=hr
  unfold Cu at h
  dsimp only at h
  split at h
  ·rename_i a' os' ha
   injection h with h
   injection h with h1 h2
   subst h1 h2
   have hl:tZ k [a]=some ([a'],os')\/∃o r,os'=o::r:=by
    cases os' with
    | nil=>left;simp[tZ,ha]
    | cons o r=>exact .inr ⟨o,r,rfl⟩
   have hl2:tZ k [a]=some ([a'],os'):=by
    rcases hl with hl | ⟨o,r,rfl⟩
    ·exact hl
    have hr':r=[]:=by
     rcases Eh hc (by simpa[VT.okL]using hok) ha with⟨f1,_⟩ | ⟨o',f1,_⟩
     ·cases f1
     injection f1
    subst hr'
    simp[tZ,ha]
   obtain⟨cs2,e1,e2,e3,e4⟩:=Ei (l:=[a]) (ys:=[z]) (by simp only[bZ];exact⟨hc,trivial⟩) hok hl2
   refine⟨cs2,e1,e2,e3,fun N' cs hN hk hco=>?_⟩
   obtain⟨g1,g2⟩:=e4 N' cs hN hk hco
   simp only[List.map_cons,ARL]at g1
   exact⟨g1.1,g2⟩
  cases h
 | agg l=>
  obtain⟨rfl,hc⟩:=hr
  unfold Cu at h
  dsimp only at h
  split at h
  ·rename_i l' os' hl
   injection h with h
   injection h with h1 h2
   subst h1 h2
   obtain⟨cs2,e1,e2,e3,e4⟩:=Ei hc hok hl
   refine⟨cs2,e1,e2,e3,fun N' cs hN hk hco=>?_⟩
   obtain⟨g1,g2⟩:=e4 N' cs hN hk hco
   exact⟨⟨_,rfl,g1⟩,g2⟩
  cases h
theorem Bnd.app {k:Nat}{os os':List Ob}{ys ys':List VT}{A B:(Nat->Prop)->List Co->Prop}(h:Bnd W N k os ys A) (h':Bnd W N (k+os.length) os' ys' B):Bnd W N k (os++os') (ys++ys') (fun N cs=>A N cs/\B N cs):=by
 obtain⟨c1,a1,a2,a3,a4⟩:=h
 obtain⟨c2,b1,b2,b3,b4⟩:=h'
 have hr:aL ((os++os').map some) (c1++c2)=aL (os.map some) c1++aL (os'.map some) c2:=by
  unfold aL
  rw[List.map_append,List.zipWith_append (by simp[a1])]
 have hc1:∀i,i<os.length->co (c1++c2) i=co c1 i:=fun i hi=>by simp[co,List.getElem?_append_left (show i<c1.length by omega)]
 have hc2:∀i,co (c1++c2) (os.length+i)=co c2 i:=fun i=>by
  unfold co
  rw[List.getElem?_append_right (by omega),show os.length+i-c1.length=i by omega]
 refine⟨c1++c2,by simp[a1,b1],by rw[hr,List.flatMap_append,a2,b2,oO],fun r hm=>?_,fun N' cs hN hk hco=>?_⟩
 ·rw[hr]at hm
  rcases List.mem_append.1 hm with hm | hm
  ·exact a3 r hm
  exact b3 r hm
 simp only[cJ]at hk hco
 obtain⟨g1,g2⟩:=a4 N' cs hN (by omega) (fun i hi=>by rw[hco i (by omega),hc1 i hi])
 obtain⟨g3,g4⟩:=b4 N' cs hN (by omega) (fun i hi=>by
  have:=hco (os.length+i) (by omega)
  rw[hc2,show k+(os.length+i)=k+os.length+i by omega]at this
  exact this)
 refine⟨⟨g1,g3⟩,fun i o ho=>?_⟩
 rcases Nat.lt_or_ge i os.length with hi | hi
 ·rw[List.getElem?_append_left hi]at ho
  rw[hc1 i hi]
  exact g2 i o ho
 rw[List.getElem?_append_right hi]at ho
 have:=g4 (i-os.length) o ho
 rw[<-hc2,show os.length+(i-os.length)=i by omega]at this
 exact this
theorem Wa:∀{l l':List FV}{k:Nat}{os:List Ob}{us:List Value}{ys:List VT},Cp W N [] l us ys->VT.okL W ys->Gh k l=some (l',os)->Bnd W N k os ys (fun N' cs=>dM W N' cs l' us)
 | [],l',k,os,us,ys,hr,hok,h=>by
  simp[Gh]at h
  obtain⟨rfl,rfl⟩:=h
  obtain⟨rfl,rfl⟩:=hr
  exact⟨[],rfl,rfl,by simp[aL],fun N' cs hN hk hco=>⟨by simp[dM],fun i o ho=>by simp at ho⟩⟩
 | a::l,l',k,os,us,ys,⟨v,vs,y1,y2,h1,h2,h3,h4⟩,hok,h=>by
  subst h1 h2
  rw[sG]at hok
  unfold Gh at h
  split at h
  ·rename_i a' os1 ha
   split at h
   ·rename_i l2 os2 hl
    injection h with h
    injection h with e1 e2
    subst e1 e2
    have q1:=Kk h3 hok.1 ha
    have q2:=Wa h4 hok.2 hl
    obtain⟨cs2,e1,e2,e3,e4⟩:=q1.app q2
    exact⟨cs2,e1,e2,e3,fun N' cs hN hk hco=>by
     obtain⟨g1,g2⟩:=e4 N' cs hN hk hco
     exact⟨by simp only[dM];exact g1,g2⟩⟩
   cases h
  cases h
theorem Rh {k:Nat}{r v:FV}{os:List Ob}{u:Value}{ys:List VT}(hr:RO W N [] r u ys) (hok:VT.okL W ys) (h:oU k r=some (v,os)):Bnd W N k os ys (fun N' cs=>bV W N' cs v u):=by
 cases r with
 | tup l=>
  obtain⟨us,rfl,h2⟩:=hr
  unfold oU at h
  dsimp only at h
  split at h
  ·rename_i l' os' hl
   injection h with h
   injection h with h1 h2
   subst h1 h2
   obtain⟨cs2,e1,e2,e3,e4⟩:=Wa h2 hok hl
   exact⟨cs2,e1,e2,e3,fun N' cs hN hk hco=>⟨⟨us,rfl,(e4 N' cs hN hk hco).1⟩,(e4 N' cs hN hk hco).2⟩⟩
  cases h
 | any=>exact hr.elim
 | one a=>
  obtain⟨cs2,e1,e2,e3,e4⟩:=Kk (r:=.one a) hr hok h
  exact⟨cs2,e1,e2,e3,fun N' cs hN hk hco=>⟨gH (e4 N' cs hN hk hco).1,(e4 N' cs hN hk hco).2⟩⟩
 | agg l=>
  obtain⟨cs2,e1,e2,e3,e4⟩:=Kk (r:=.agg l) hr hok h
  exact⟨cs2,e1,e2,e3,fun N' cs hN hk hco=>⟨gH (e4 N' cs hN hk hco).1,(e4 N' cs hN hk hco).2⟩⟩
end
section
variable {x:Cx}{g g':Nat->FV}{ob ob':List (Option Ob)}{cs cs':List Co}{ts ts':Array Value}{W W':World}{T:List (Nat×TI)}{Q:Post}{ops:Array Oper}{rest:List Oper}{d:Nat}{ty:TypeId}{pos:String}{af:Array Edge}{gd:Option (Nat×Bool)}
theorem Ri {fresh:Bool}{f:FuncId}{args:List FV}{R:List Lt->FV->Prop}{aa:Array Operand}{ats:Array TypeId}{key:Nat}(hS:aE fresh x.P f [] args R) (hf:CallOk x.P f) (ha:AL fresh x g ob aa.toList args) (hk:eM ob key=true) (hb:∀r,R [] r->(oU key r).isSome=true):
  OS x ⟨some d,.call ⟨.value (.func f),aa,ats⟩,ty,pos,af,gd⟩ g ob [] (fun g' ob'=>∃r v os,R [] r/\oU key r=some (v,os)/\g'=bG g d v/\ob'=ob++os.map some):=by
 intro cs ts W hR K Q kk
 have hC:=Mj hS ha hR
 obtain⟨fn,c,h1,h2,h3⟩:=hf
 have hrun:(execOp (Act.eval ⟨ts,[]⟩) ⟨some d,.call ⟨.value (.func f),aa,ats⟩,ty,pos,af,gd⟩).run x.P W=.ok (.enter f (aa.toList.map (Act.eval ⟨ts,[]⟩)).toArray) W:=by
  have e0:Act.eval ⟨ts,[]⟩ (.func f)=.func (.func f) #[] #[]:=rfl
  have e1:aa.map (Act.eval ⟨ts,[]⟩)=(aa.toList.map (Act.eval ⟨ts,[]⟩)).toArray:=by apply Array.ext';simp only[Array.toList_map]
  simp[execOp,resolve,e0,Deferred.ofValue,invoke,e1,callFunc,h1,h3]
  intro hn
  rw[hn]at h2
  simp at h2
 unfold Oper.wp
 rw[hrun]
 refine hC.mono fun e W' hE=>?_
 obtain⟨u,r,ys,rfl,hr,hbel,hok,hnd,hfp,hro⟩:=hE
 obtain⟨⟨v,os⟩,hbn⟩:=Option.isSome_iff_exists.1 (hb r hr)
 obtain⟨cs2,e1,e2,e3,e4⟩:=Rh hro hok hbn
 have hk:=Nat.eq_of_beq_eq_true hk
 have hlen:=hR.len
 have hrs:aL (ob++os.map some) (cs++cs2)=aL ob cs++aL (os.map some) cs2:=by
  unfold aL
  rw[List.zipWith_append hlen]
 have hext:=hR.2.ext hbel
 have hnew:∀b∈(aL (os.map some) cs2).flatMap Res.S,W.heap.size<=b/\b<W'.heap.size:=fun b hb=>hfp b (by rw[<-e2];exact hb)
 have hL:Loc x.M x.w W' (aL (ob++os.map some) (cs++cs2)) []:=by
  rw[hrs]
  refine⟨hext.chg,fun q hq=>?_,fun b hb=>?_,?_,fun _ h=>by cases h⟩
  ·rcases List.mem_append.1 hq with hq | hq
   ·exact hext.res q hq
   exact e3 q hq
  ·rw[List.flatMap_append,List.mem_append]at hb
   rcases hb with hb | hb
   ·exact hext.blk b hb
   exact⟨.inr (Nat.le_trans hR.2.chg.size (hnew b hb).1),(hnew b hb).2⟩
  rw[List.flatMap_append,List.nodup_append]
  refine⟨hext.nd,by rw[e2];exact hnd,fun a ha b hb e=>?_⟩
  subst e
  have:=(hR.2.blk a ha).2
  have:=(hnew a hb).1
  omega
 have hown:∀b∈dO (ob++os.map some) (cs++cs2),b∈dO ob cs\/W.heap.size<=b:=fun b hb=>by
  unfold dO at hb
  rw[hrs,List.flatMap_append,List.mem_append]at hb
  rcases hb with hb | hb
  ·exact .inl hb
  exact .inr (hnew b hb).1
 have hsame:Same cs (cs++cs2):=⟨by simp,fun k hk=>by simp[co,List.getElem?_append_left hk]⟩
 have hcoA:∀k,k<cs.length->co (cs++cs2) k=co cs k:=fun k hk=>by simp[co,List.getElem?_append_left hk]
 have hcoB:∀i,co (cs++cs2) (key+i)=co cs2 i:=fun i=>by
  unfold co
  rw[List.getElem?_append_right (by omega),show key+i-cs.length=i by omega]
 have hN:∀b,x.fr W ob cs b->x.fr W' (ob++os.map some) (cs++cs2) b:=fun b h=>wX h hbel.size hown
 have hkeep:∀b,x.fr W ob cs b->W'.heap[b]? =W.heap[b]? :=fun b h=>hbel.block b h.1.1
 have hN2:∀b,(fresh=false/\b∉VT.fpL ys/\b<W'.heap.size/\(x.fr W ob cs b\/W.heap.size<=b))->x.fr W' (ob++os.map some) (cs++cs2) b:=fun b hb=>by
  obtain⟨_,h5,h6,h7⟩:=hb
  rcases h7 with h7 | h7
  ·exact hN b h7
  refine⟨⟨h6,fun hm=>?_⟩,.inr (.inr (Nat.le_trans hR.2.chg.size h7))⟩
  rw[hrs,List.flatMap_append,List.mem_append]at hm
  rcases hm with hm | hm
  ·have:=(hR.2.blk b hm).2
   omega
  exact h5 (by rw[<-e2];exact hm)
 obtain⟨g1,g2⟩:=e4 _ (cs++cs2) hN2 (by simp[e1];omega) (fun i _=>hcoB i)
 have hR':RelC x g (ob++os.map some) (cs++cs2) ts W':=by
  refine .of hR.1 hL ⟨by simp[hlen,e1],fun k o hk'=>?_⟩ (fun i hi=>?_) (hR.3.trans hsame)
  ·rcases Nat.lt_or_ge k ob.length with hlt | hge
   ·rw[List.getElem?_append_left hlt]at hk'
    have h5:=hR.obs.2 k o hk'
    rw[hcoA k (by omega)]
    exact⟨dI hkeep hN hsame _ _ h5.1,h5.2⟩
   rw[List.getElem?_append_right hge]at hk'
   have ho:os[k-ob.length]? =some o:=by
    rw[List.getElem?_map]at hk'
    cases hq:os[k-ob.length]? with
    | none=>rw[hq]at hk';cases hk'
    | some o'=>
     rw[hq]at hk'
     simp at hk'
     rw[hk']
   have h5:=g2 _ o ho
   have e9:=hcoB (k-ob.length)
   rw[show key+(k-ob.length)=k by omega]at e9
   rw[e9]
   exact h5
  obtain⟨u,h5,h6⟩:=hR.fv hi
  exact⟨u,h5,gC hkeep hN hsame _ _ h6⟩
 exact kk _ _ _ _ _ ⟨r,v,os,hr,hbn,rfl,rfl⟩ (hR'.put d g1) ⟨hsame,fun k _ hk=>hcoA k hk,hbel.size,fun b hlt _=>hbel.block b hlt,hown,fun i hi=>Array.getElem?_setIfInBounds_ne (fun e=>hi (by rw[e]))⟩
theorem PL {fresh:Bool}{f:FuncId}{args:List FV}{r v:FV}{os:List Ob}{aa:Array Operand}{ats:Array TypeId}{key:Nat}(hw:bK ops x.n g gd=some true) (hS:aE fresh x.P f [] args (aP r)) (hf:CallOk x.P f) (ha:AL fresh x g ob aa.toList args) (hk:eM ob key=true) (hb:oU key r=some (v,os)) (k:WL x ops rest (bG g d v) (ob++os.map some) Q):
  WL x ops (⟨some d,.call ⟨.value (.func f),aa,ats⟩,ty,pos,af,gd⟩::rest) g ob Q:=
 gY (Ri hS hf ha hk (by rintro _ rfl;rw[hb];rfl)) hw (by
  rintro _ _ ⟨r',v',os',rfl,h,rfl,rfl⟩
  rw[hb]at h
  injection h with h
  injection h with h1 h2
  subst h1 h2
  exact k)
theorem PM {late:Nat->Bool}{K fr:List Nat}{fuel:Nat}{listed:Array Bool}{fresh:Bool}{f:FuncId}{args:List FV}{r v:FV}{os:List Ob}{aa:Array Operand}{ats:Array TypeId}{key:Nat}(i:Nat) (hr:Region.ready .any ops listed=[i]) (hi:ops[i]? =some ⟨some d,.call ⟨.value (.func f),aa,ats⟩,ty,pos,af,gd⟩) (hw:bK ops x.n g gd=some true) (hS:aE fresh x.P f [] args (aP r)) (hf:CallOk x.P f) (ha:AL fresh x g ob aa.toList args) (hk:eM ob key=true) (hb:oU key r=some (v,os)) (hK:XZ K ob=true)
  (k:WD x ops Q late K (d::fr) true fuel (listed.setIfInBounds i true) (bG g d v) (ob++os.map some)):WD x ops Q late K fr true (fuel+1) listed g ob:=
 Rg (v:=v) i hr hi rfl hw (Ri hS hf ha hk (by rintro _ rfl;rw[hb];rfl)) (by
  rintro _ _ ⟨r',v',os',rfl,h,rfl,rfl⟩
  rw[hb]at h
  injection h with h
  injection h with h1 h2
  subst h1 h2
  exact⟨rfl,fun k hk'=>PK (o:=none) hK k hk'⟩) (by
  rintro _ _ ⟨r',v',os',rfl,h,rfl,rfl⟩
  rw[hb]at h
  injection h with h
  injection h with h1 h2
  subst h1 h2
  exact k)
end
set_option maxRecDepth 100000
theorem TyArr.mk2 {P:Program}{t n size:Nat}(e:Nat) (h:P.underlying t=some (.array n e)) (h2:(P.info? e).map (·.size)=some size):TyArr P t n size:=by
 obtain⟨i,h3,h4⟩:=Option.map_eq_some_iff.1 h2
 exact⟨e,i,h,h3,h4⟩
theorem iY {P:Program}{t:Nat}{z:List Value}{k:TK}(h1:Ty1 P t:=by exact .mk (by kernel_rfl) (by kernel_rfl)) (h2:TyN P t 1:=by exact .mk (by kernel_rfl)) (h3:TyZ P t z:=by exact .mk (by kernel_rfl)) (h4:Af P t k:=by first | exact .mk (by kernel_rfl) | exact⟨.mk (by kernel_rfl) (by kernel_rfl),.mk (by kernel_rfl) (by kernel_rfl) rfl (by decide)⟩ | exact trivial):Yp P t ⟨false,1,z,k⟩:=⟨⟨h1,rfl⟩,h2,h3,h4⟩
theorem kV {P:Program}{t n:Nat}{z:List Value}{k:TK}(h1:TyA P t n:=by exact .mk (by kernel_rfl) (by kernel_rfl)) (h2:TyN P t n:=by exact .mk (by kernel_rfl)) (h3:TyZ P t z:=by exact .mk (by kernel_rfl)) (h4:Af P t k:=by first | exact trivial | exact⟨by repeat' first | exact trivial | refine⟨.mk (by kernel_rfl),.mk (by kernel_rfl),?_⟩,.mk (by kernel_rfl)⟩):Yp P t ⟨true,n,z,k⟩:=⟨h1,h2,h3,h4⟩
def okB (P:Program) (f:FuncId):Bool:=match P.funcs[f]? with
  | some fn=> !(fn.name== "runtime.NumGoroutine")&&fn.body.isSome
  | none=>false
theorem aA {P:Program}{f:FuncId}(h:okB P f=true:=by kernel_rfl):CallOk P f:=by
  unfold okB at h
  cases e:P.funcs[f]? with
  | none=>rw[e]at h;cases h
  | some fn=>
    rw[e]at h
    simp only[Bool.and_eq_true,Bool.not_eq_true']at h
    exact .mk e h.1 h.2
def ttab:List (Nat×TI):=[(2,⟨false,1,[.int .i64 0],.it .i64⟩),
 (3,⟨false,1,[.int .i64 0],.it .i64⟩),
 (4,⟨false,1,[.bool false],.bl⟩),
 (5,⟨false,1,[.int .u8 0],.it .u8⟩),
 (9,⟨false,1,[.string ⟨#[]⟩],.str⟩),
 (22,⟨false,1,[.slice none 0 0],.sl 70 8 128 (.agg #[.bool false,.slice none 0 0,.bool false,.slice none 0 0,.bool false,.slice none 0 0,.bool false,.slice none 0 0])⟩),
 (23,⟨false,1,[.slice none 0 0],.sl 223 1 4 (.int .u32 0)⟩),
 (25,⟨true,2,[.bool false,.slice none 0 0],.st [(0,4,1),(1,23,1)]⟩),
 (27,⟨true,4,[.bool false,.slice none 0 0,.bool false,.slice none 0 0],.st [(0,25,2),(2,25,2)]⟩),
 (28,⟨false,1,[.slice none 0 0],.sl 64 6 88 (.agg #[.string ⟨#[]⟩,.int .u8 0,.bool false,.slice none 0 0,.bool false,.slice none 0 0])⟩),
 (29,⟨false,1,[.slice none 0 0],.sl 9 1 16 (.string ⟨#[]⟩)⟩),
 (30,⟨false,1,[.slice none 0 0],.sl 55 6 128 (.agg #[.int .i64 0,.slice none 0 0,.slice none 0 0,.slice none 0 0,.slice none 0 0,.slice none 0 0])⟩),
 (32,⟨true,25,[.string ⟨#[]⟩,.string ⟨#[]⟩,.slice none 0 0,.bool false,.slice none 0 0,.bool false,.slice none 0 0,.bool false,.slice none 0 0,.bool false,.slice none 0 0,.int .i64 0,.int .i64 0,.bool false,.slice none 0 0,.bool false,.slice none 0 0,.bool false,.slice none 0 0,.bool false,.slice none 0 0,.int .i64 0,.slice none 0 0,.slice none 0 0,.slice none 0 0],.st [(0,9,1),(1,9,1),(2,22,1),(3,27,4),(7,27,4),(11,3,1),(12,3,1),(13,27,4),(17,27,4),(21,3,1),(22,28,1),(23,29,1),(24,30,1)]⟩),
 (35,⟨false,1,[.slice none 0 0],.sl 72 8 128 (.agg #[.bool false,.slice none 0 0,.bool false,.slice none 0 0,.bool false,.slice none 0 0,.bool false,.slice none 0 0])⟩),
 (36,⟨true,2,[.bool false,.slice none 0 0],.st [(0,4,1),(1,23,1)]⟩),
 (38,⟨true,4,[.bool false,.slice none 0 0,.bool false,.slice none 0 0],.st [(0,36,2),(2,36,2)]⟩),
 (39,⟨false,1,[.slice none 0 0],.sl 74 6 88 (.agg #[.string ⟨#[]⟩,.int .u8 0,.bool false,.slice none 0 0,.bool false,.slice none 0 0])⟩),
 (40,⟨false,1,[.slice none 0 0],.sl 81 6 128 (.agg #[.int .i64 0,.slice none 0 0,.slice none 0 0,.slice none 0 0,.slice none 0 0,.slice none 0 0])⟩),
 (42,⟨true,25,[.string ⟨#[]⟩,.string ⟨#[]⟩,.slice none 0 0,.bool false,.slice none 0 0,.bool false,.slice none 0 0,.bool false,.slice none 0 0,.bool false,.slice none 0 0,.int .i64 0,.int .i64 0,.bool false,.slice none 0 0,.bool false,.slice none 0 0,.bool false,.slice none 0 0,.bool false,.slice none 0 0,.int .i64 0,.slice none 0 0,.slice none 0 0,.slice none 0 0],.st [(0,9,1),(1,9,1),(2,35,1),(3,38,4),(7,38,4),(11,3,1),(12,3,1),(13,38,4),(17,38,4),(21,3,1),(22,39,1),(23,29,1),(24,40,1)]⟩),
 (44,⟨false,1,[.int .i64 0],.it .i64⟩),
 (49,⟨false,1,[.slice none 0 0],.sl 110 6 96 (.agg #[.string ⟨#[]⟩,.string ⟨#[]⟩,.bool false,.slice none 0 0,.bool false,.slice none 0 0])⟩),
 (50,⟨false,1,[.slice none 0 0],.sl 112 6 96 (.agg #[.string ⟨#[]⟩,.string ⟨#[]⟩,.bool false,.slice none 0 0,.bool false,.slice none 0 0])⟩),
 (51,⟨false,1,[.slice none 0 0],.sl 67 10 144 (.agg #[.bool false,.string ⟨#[]⟩,.int .u8 0,.string ⟨#[]⟩,.string ⟨#[]⟩,.string ⟨#[]⟩,.bool false,.slice none 0 0,.bool false,.slice none 0 0])⟩),
 (52,⟨false,1,[.slice none 0 0],.sl 114 9 144 (.agg #[.string ⟨#[]⟩,.bool false,.slice none 0 0,.bool false,.slice none 0 0,.bool false,.slice none 0 0,.bool false,.slice none 0 0])⟩),
 (53,⟨false,1,[.slice none 0 0],.sl 116 5 80 (.agg #[.string ⟨#[]⟩,.bool false,.slice none 0 0,.bool false,.slice none 0 0])⟩),
 (55,⟨true,6,[.int .i64 0,.slice none 0 0,.slice none 0 0,.slice none 0 0,.slice none 0 0,.slice none 0 0],.st [(0,3,1),(1,49,1),(2,50,1),(3,51,1),(4,52,1),(5,53,1)]⟩),
 (57,⟨false,1,[.slice none 0 0],.sl 27 4 64 (.agg #[.bool false,.slice none 0 0,.bool false,.slice none 0 0])⟩),
 (64,⟨true,6,[.string ⟨#[]⟩,.int .u8 0,.bool false,.slice none 0 0,.bool false,.slice none 0 0],.st [(0,9,1),(1,5,1),(2,27,4)]⟩),
 (67,⟨true,10,[.bool false,.string ⟨#[]⟩,.int .u8 0,.string ⟨#[]⟩,.string ⟨#[]⟩,.string ⟨#[]⟩,.bool false,.slice none 0 0,.bool false,.slice none 0 0],.st [(0,4,1),(1,9,1),(2,5,1),(3,9,1),(4,9,1),(5,9,1),(6,27,4)]⟩),
 (70,⟨true,8,[.bool false,.slice none 0 0,.bool false,.slice none 0 0,.bool false,.slice none 0 0,.bool false,.slice none 0 0],.st [(0,27,4),(4,27,4)]⟩),
 (72,⟨true,8,[.bool false,.slice none 0 0,.bool false,.slice none 0 0,.bool false,.slice none 0 0,.bool false,.slice none 0 0],.st [(0,38,4),(4,38,4)]⟩),
 (74,⟨true,6,[.string ⟨#[]⟩,.int .u8 0,.bool false,.slice none 0 0,.bool false,.slice none 0 0],.st [(0,9,1),(1,5,1),(2,38,4)]⟩),
 (75,⟨false,1,[.slice none 0 0],.sl 127 6 96 (.agg #[.string ⟨#[]⟩,.string ⟨#[]⟩,.bool false,.slice none 0 0,.bool false,.slice none 0 0])⟩),
 (76,⟨false,1,[.slice none 0 0],.sl 129 6 96 (.agg #[.string ⟨#[]⟩,.string ⟨#[]⟩,.bool false,.slice none 0 0,.bool false,.slice none 0 0])⟩),
 (77,⟨false,1,[.slice none 0 0],.sl 131 10 144 (.agg #[.bool false,.string ⟨#[]⟩,.int .u8 0,.string ⟨#[]⟩,.string ⟨#[]⟩,.string ⟨#[]⟩,.bool false,.slice none 0 0,.bool false,.slice none 0 0])⟩),
 (78,⟨false,1,[.slice none 0 0],.sl 133 9 144 (.agg #[.string ⟨#[]⟩,.bool false,.slice none 0 0,.bool false,.slice none 0 0,.bool false,.slice none 0 0,.bool false,.slice none 0 0])⟩),
 (79,⟨false,1,[.slice none 0 0],.sl 135 5 80 (.agg #[.string ⟨#[]⟩,.bool false,.slice none 0 0,.bool false,.slice none 0 0])⟩),
 (81,⟨true,6,[.int .i64 0,.slice none 0 0,.slice none 0 0,.slice none 0 0,.slice none 0 0,.slice none 0 0],.st [(0,3,1),(1,75,1),(2,76,1),(3,77,1),(4,78,1),(5,79,1)]⟩),
 (84,⟨true,3,[.int .u8 0,.int .i64 0,.int .i64 0],.st [(0,5,1),(1,3,1),(2,3,1)]⟩),
 (88,⟨false,1,[.pointer none],.pt⟩),
 (89,⟨false,1,[.slice none 0 0],.sl 5 1 1 (.int .u8 0)⟩),
 (91,⟨true,2,[.pointer none,.slice none 0 0],.st [(0,88,1),(1,89,1)]⟩),
 (93,⟨true,2,[.pointer none,.slice none 0 0],.st [(0,91,2)]⟩),
 (95,⟨true,2,[.pointer none,.slice none 0 0],.st [(0,93,2)]⟩),
 (99,⟨true,3,[.int .u8 0,.int .i64 0,.int .i64 0],.st [(0,5,1),(1,3,1),(2,3,1)]⟩),
 (110,⟨true,6,[.string ⟨#[]⟩,.string ⟨#[]⟩,.bool false,.slice none 0 0,.bool false,.slice none 0 0],.st [(0,9,1),(1,9,1),(2,27,4)]⟩),
 (112,⟨true,6,[.string ⟨#[]⟩,.string ⟨#[]⟩,.bool false,.slice none 0 0,.bool false,.slice none 0 0],.st [(0,9,1),(1,9,1),(2,27,4)]⟩),
 (114,⟨true,9,[.string ⟨#[]⟩,.bool false,.slice none 0 0,.bool false,.slice none 0 0,.bool false,.slice none 0 0,.bool false,.slice none 0 0],.st [(0,9,1),(1,27,4),(5,27,4)]⟩),
 (116,⟨true,5,[.string ⟨#[]⟩,.bool false,.slice none 0 0,.bool false,.slice none 0 0],.st [(0,9,1),(1,27,4)]⟩),
 (127,⟨true,6,[.string ⟨#[]⟩,.string ⟨#[]⟩,.bool false,.slice none 0 0,.bool false,.slice none 0 0],.st [(0,9,1),(1,9,1),(2,38,4)]⟩),
 (129,⟨true,6,[.string ⟨#[]⟩,.string ⟨#[]⟩,.bool false,.slice none 0 0,.bool false,.slice none 0 0],.st [(0,9,1),(1,9,1),(2,38,4)]⟩),
 (131,⟨true,10,[.bool false,.string ⟨#[]⟩,.int .u8 0,.string ⟨#[]⟩,.string ⟨#[]⟩,.string ⟨#[]⟩,.bool false,.slice none 0 0,.bool false,.slice none 0 0],.st [(0,4,1),(1,9,1),(2,5,1),(3,9,1),(4,9,1),(5,9,1),(6,38,4)]⟩),
 (133,⟨true,9,[.string ⟨#[]⟩,.bool false,.slice none 0 0,.bool false,.slice none 0 0,.bool false,.slice none 0 0,.bool false,.slice none 0 0],.st [(0,9,1),(1,38,4),(5,38,4)]⟩),
 (135,⟨true,5,[.string ⟨#[]⟩,.bool false,.slice none 0 0,.bool false,.slice none 0 0],.st [(0,9,1),(1,38,4)]⟩),
 (136,⟨false,1,[.pointer none],.pt⟩),
 (142,⟨false,1,[.slice none 0 0],.sl 4 1 1 (.bool false)⟩),
 (149,⟨false,1,[.slice none 0 0],.sl 136 1 8 (.pointer none)⟩),
 (151,⟨true,4,[.int .u8 0,.int .i64 0,.int .i64 0,.int .i64 0],.st [(0,84,3),(3,44,1)]⟩),
 (155,⟨false,1,[.slice none 0 0],.sl 3 1 8 (.int .i64 0)⟩),
 (173,⟨false,1,[.nilIface],.ot⟩),
 (223,⟨false,1,[.int .u32 0],.it .u32⟩),
 (243,⟨true,9,[.int .u8 0,.int .u8 0,.int .u8 0,.int .u8 0,.int .u8 0,.int .u8 0,.int .u8 0,.int .u8 0,.int .u8 0],.ar 9 1⟩),
 (245,⟨false,1,[.int .u64 0],.it .u64⟩),
 (257,⟨true,2,[.bool false,.slice none 0 0],.st [(0,25,2)]⟩),
 (259,⟨false,1,[.int .u64 0],.it .u64⟩),
 (295,⟨true,4,[.bool false,.slice none 0 0,.bool false,.slice none 0 0],.st [(0,27,4)]⟩),
 (313,⟨false,1,[.slice none 0 0],.sl 23 1 24 (.slice none 0 0)⟩)]
theorem aR:cH Tryz.prog ttab:=⟨iY,iY,iY,iY,iY,iY,iY,kV,kV,iY,iY,iY,kV,iY,kV,kV,iY,iY,kV,iY,iY,iY,iY,iY,iY,kV,iY,kV,kV,kV,kV,kV,iY,iY,iY,iY,iY,kV,kV,iY,iY,kV,kV,kV,kV,kV,kV,kV,kV,kV,kV,kV,kV,kV,iY,iY,iY,kV,iY,iY,iY,kV (h4:=TyArr.mk2 5 (by kernel_rfl) (by kernel_rfl)),iY,kV,iY,kV,iY,trivial⟩
theorem mixed:Tryz.prog.follows .mixedOrders=true:=by kernel_rfl
section
variable {x:Cx}{g:Nat->FV}{ob ob':List (Option Ob)}{Q:Post}{ops:Array Oper}{rest:List Oper}{d:Nat}{op:Op}{ty:TypeId}{pos:String}{af:Array Edge}{gd:Option (Nat×Bool)}{C:Prop}{v:FV}
theorem o1 (k:WL x ops rest (bG g d v) ob Q) (hT:cH x.P ttab:=by exact aR) (hw:bK ops x.n g gd=some true:=by rfl) (h:yP ttab x.n g op=some (C,v):=by rfl) (hC:C:=by first | trivial | omega | (simp only[jU];omega)):WL x ops (⟨some d,op,ty,pos,af,gd⟩::rest) g ob Q:=w_v hT hw h hC k
theorem ld {t:Nat}{i:TI}{a:Operand}(k:WL x ops rest (bG g d v) ob Q) (hT:cH x.P ttab:=by exact aR) (hw:bK ops x.n g gd=some true:=by rfl) (hi:bX ttab t=some i:=by rfl) (h:yQ ob i (lk x.n g a)=some (C,v):=by rfl):WL x ops (⟨some d,.load t a,ty,pos,af,gd⟩::rest) g ob Q:=XW hT hw hi h k
theorem cX {t:Nat}{i:TI}{a:Operand}{l:List Tr}{of:Nat}(us:List Tr) (hl:(l.drop of).take us.length=us) (k:WL x ops rest (bG g d v) ob Q) (hT:cH x.P ttab:=by exact aR) (hw:bK ops x.n g gd=some true:=by rfl) (hi:bX ttab t=some i:=by rfl) (h:lk x.n g a=.one (.ef l of):=by rfl) (hv:Qr i us=some v:=by rfl):WL x ops (⟨some d,.load t a,ty,pos,af,gd⟩::rest) g ob Q:=aBs hT hw hi h hl hv k
theorem al {t:Nat}(key:Nat) (k:WL x ops rest (bG g d (.one (.pt key 0))) ob' Q) (hT:cH x.P ttab:=by exact aR) (hw:bK ops x.n g gd=some true:=by rfl) (h:Cm ttab t key ob=some ob':=by rfl):WL x ops (⟨some d,.alloc t,ty,pos,af,gd⟩::rest) g ob Q:=aCO hT hw h k
theorem bx {t:Nat}{a:Operand}(key:Nat) (k:WL x ops rest (bG g d (.one (.pt key 0))) ob' Q) (hw:bK ops x.n g gd=some true:=by rfl) (h:Yv t key (lk x.n g a) ob=some ob':=by rfl):WL x ops (⟨some d,.box t a,ty,pos,af,gd⟩::rest) g ob Q:=aCP hw h k
theorem st {t:Nat}{i:TI}{a b:Operand}(k:WL x ops rest g ob' Q) (hT:cH x.P ttab:=by exact aR) (hw:bK ops x.n g gd=some true:=by rfl) (hi:bX ttab t=some i:=by rfl) (h:zI i ob (lk x.n g b) (lk x.n g a)=some ob':=by rfl):WL x ops (⟨none,.store t a b,ty,pos,af,gd⟩::rest) g ob Q:=aCQ hT hw hi h k
theorem bs {t len:Nat}{ps:Array (Nat×Operand)}(key:Nat) (k:WL x ops rest (bG g d (.one (.sl key 0 len))) ob' Q) (hT:cH x.P ttab:=by exact aR) (hw:bK ops x.n g gd=some true:=by rfl) (h:Rb ttab x.n g t len key ps.toList ob=some ob':=by rfl):WL x ops (⟨some d,.buildSlice t len ps,ty,pos,af,gd⟩::rest) g ob Q:=aCR hT hw h k
theorem aW {o:Oper}(k:WL x ops rest (bG g d (.one (tv undef))) ob Q) (hw:bK ops x.n g o.guard=some false:=by rfl) (hd:o.dst=some d:=by rfl):WL x ops (o::rest) g ob Q:=aCN hw hd k
theorem ca {fresh:Bool}{f:FuncId}{args:List FV}{r:FV}{aa:Array Operand}{ats:Array TypeId}(hS:aE fresh x.P f [] args (aP r)) (hf:CallOk x.P f) (ha:AL fresh x g ob aa.toList args) (v:FV) (k:WL x ops rest (bG g d v) ob Q) (hw:bK ops x.n g gd=some true:=by rfl) (hv:yF r=v:=by rfl):
  WL x ops (⟨some d,.call ⟨.value (.func f),aa,ats⟩,ty,pos,af,gd⟩::rest) g ob Q:=XY hw hS hf ha hv k
variable {late:Nat->Bool}{K fr:List Nat}{on:Bool}{fuel:Nat}{listed:Array Bool}
theorem dv (i:Nat) (k:WD x ops Q late K fr true fuel (listed.setIfInBounds i true) (bG g d v) ob) (hT:cH x.P ttab:=by exact aR) (hi:ops[i]? =some ⟨some d,op,ty,pos,af,gd⟩:=by rfl) (hst:pY ops late listed i=true:=by kernel_rfl) (hw:bK ops x.n g gd=some true:=by rfl) (h:yP ttab x.n (qY fr g) op=some (C,v):=by rfl) (hC:C:=by first | trivial | omega | (simp only[jU];omega)) (hg:yP ttab x.n g op=some (C,v):=by rfl):WD x ops Q late K fr true (fuel+1) listed g ob:=dt i hT hi hst hw h hC hg k
theorem df (i:Nat) (k:WD x ops Q late K (d::fr) true fuel (listed.setIfInBounds i true) (bG g d v) ob) (hT:cH x.P ttab:=by exact aR) (hi:ops[i]? =some ⟨some d,op,ty,pos,af,gd⟩:=by rfl) (hst:pY ops late listed i=true:=by kernel_rfl) (hw:bK ops x.n g gd=some true:=by rfl) (h:yP ttab x.n g op=some (C,v):=by rfl) (hC:C:=by first | trivial | omega | (simp only[jU];omega)):WD x ops Q late K fr true (fuel+1) listed g ob:=dtf i hT hi hst hw h hC k
theorem aF {t:Nat}{ti:TI}{a:Operand}{key off:Nat}(i:Nat) (k:WD x ops Q late K fr true fuel (listed.setIfInBounds i true) (bG g d v) ob) (hT:cH x.P ttab:=by exact aR) (hi:ops[i]? =some ⟨some d,.load t a,ty,pos,af,gd⟩:=by rfl) (hst:pY ops late listed i=true:=by kernel_rfl) (hw:bK ops x.n g gd=some true:=by rfl) (hti:bX ttab t=some ti:=by rfl) (hlk:lk x.n g a=.one (.pt key off):=by rfl) (hK:K.contains key=true:=by rfl) (h:yQ ob ti (.one (.pt key off))=some (C,v):=by rfl):WD x ops Q late K fr true (fuel+1) listed g ob:=dl i hT hi hst hw hti hlk hK h k
theorem dQ {t:Nat}{ti:TI}{a:Operand}{l:List Tr}{of:Nat}(i:Nat) (us:List Tr) (hl:(l.drop of).take us.length=us) (k:WD x ops Q late K fr true fuel (listed.setIfInBounds i true) (bG g d v) ob) (hT:cH x.P ttab:=by exact aR) (hi:ops[i]? =some ⟨some d,.load t a,ty,pos,af,gd⟩:=by rfl) (hst:pY ops late listed i=true:=by kernel_rfl) (hw:bK ops x.n g gd=some true:=by rfl) (hti:bX ttab t=some ti:=by rfl) (hlk:lk x.n (qY fr g) a=.one (.ef l of):=by rfl) (hv:Qr ti us=some v:=by rfl):WD x ops Q late K fr true (fuel+1) listed g ob:=dlf i hT hi hst hw hti hlk hl hv k
theorem cF (i:Nat) (k:WD x ops Q late K fr true fuel (listed.setIfInBounds i true) (bG g d (.one (tv undef))) ob) (hi:ops[i]? =some ⟨some d,op,ty,pos,af,gd⟩:=by rfl) (hst:pY ops late listed i=true:=by kernel_rfl) (hw:bK ops x.n g gd=some false:=by rfl):WD x ops Q late K fr true (fuel+1) listed g ob:=dn i hi hst hw k
theorem aG {fresh:Bool}{f:FuncId}{args:List FV}{r:FV}{aa:Array Operand}{ats:Array TypeId}(i:Nat) (hi:ops[i]? =some ⟨some d,.call ⟨.value (.func f),aa,ats⟩,ty,pos,af,gd⟩) (hS:aE fresh x.P f [] args (aP r)) (hf:CallOk x.P f) (ha:AL fresh x g ob aa.toList args) (v:FV) (k:WD x ops Q late K (d::fr) true fuel (listed.setIfInBounds i true) (bG g d v) ob) (hr:Region.ready .any ops listed=[i]:=by kernel_rfl) (hw:bK ops x.n g gd=some true:=by rfl) (hv:yF r=v:=by rfl):WD x ops Q late K fr true (fuel+1) listed g ob:=YA i hr hi hw hS hf ha hv k
theorem dE {fresh:Bool}{f:FuncId}{args:List FV}{r:FV}{aa:Array Operand}{ats:Array TypeId}(i:Nat) (hi:ops[i]? =some ⟨some d,.call ⟨.value (.func f),aa,ats⟩,ty,pos,af,gd⟩) (hS:aE fresh x.P f [] args (aP r)) (hf:CallOk x.P f) (ha:AL fresh x g ob aa.toList args) (v:FV) (k:WD x ops Q late K (d::fr) true fuel (listed.setIfInBounds i true) (bG g d v) ob) (hw:bK ops x.n g gd=some true:=by rfl) (hv:yF r=v:=by rfl):WO x ops Q late K fr true fuel listed i g ob:=YB i hi hw hS hf ha hv k
theorem dst {t:Nat}{ti:TI}{a b:Operand}(i:Nat) (k:WD x ops Q late K fr false fuel (listed.setIfInBounds i true) g ob') (hT:cH x.P ttab:=by exact aR) (hr:Region.ready .any ops listed=[i]:=by kernel_rfl) (hi:ops[i]? =some ⟨none,.store t a b,ty,pos,af,gd⟩:=by rfl) (hw:bK ops x.n g gd=some true:=by rfl) (hti:bX ttab t=some ti:=by rfl) (h:zI ti ob (lk x.n g b) (lk x.n g a)=some ob':=by rfl) (hl:late i=true:=by rfl):WD x ops Q late K fr on (fuel+1) listed g ob:=aCU i hr hi hw hT hti h hl k
theorem nC {fresh:Bool}{f:FuncId}{args:List FV}{r:FV}{os:List Ob}{aa:Array Operand}{ats:Array TypeId}(key:Nat) (hS:aE fresh x.P f [] args (aP r)) (hf:CallOk x.P f) (ha:AL fresh x g ob aa.toList args) (k:WL x ops rest (bG g d v) (ob++os.map some) Q) (hw:bK ops x.n g gd=some true:=by rfl) (hk:eM ob key=true:=by rfl) (hb:oU key r=some (v,os):=by rfl):
  WL x ops (⟨some d,.call ⟨.value (.func f),aa,ats⟩,ty,pos,af,gd⟩::rest) g ob Q:=PL hw hS hf ha hk hb k
theorem qA {fresh:Bool}{f:FuncId}{args:List FV}{r:FV}{os:List Ob}{aa:Array Operand}{ats:Array TypeId}(key i:Nat) (hi:ops[i]? =some ⟨some d,.call ⟨.value (.func f),aa,ats⟩,ty,pos,af,gd⟩) (hS:aE fresh x.P f [] args (aP r)) (hf:CallOk x.P f) (ha:AL fresh x g ob aa.toList args) (k:WD x ops Q late K (d::fr) true fuel (listed.setIfInBounds i true) (bG g d v) (ob++os.map some)) (hr:Region.ready .any ops listed=[i]:=by kernel_rfl) (hw:bK ops x.n g gd=some true:=by rfl) (hk:eM ob key=true:=by rfl) (hb:oU key r=some (v,os):=by rfl) (hK:XZ K ob=true:=by rfl):WD x ops Q late K fr true (fuel+1) listed g ob:=PM i hr hi hw hS hf ha hk hb hK k
theorem aJ (h:Q .normal g ob) (hr:Region.ready .any ops listed=[]:=by kernel_rfl):WD x ops Q late K fr on fuel listed g ob:=dz hr h
end
theorem aY {x:Cx}{g:Nat->FV}{ob:List (Option Ob)}{Q:Post}{ops:Array Oper}{rest:List Oper}{z:Int}(t m:Nat) (k:WL x ops rest (bG g t (.one (tv (.int .i64 (m:Int))))) ob Q) (ht:g t=.one (tv (.int .i64 z)):=by rfl) (e:z=(m:Int):=by omega):WL x ops rest g ob Q:=WL.cast ht (dN e) k
theorem Er {x:Cx}{g:Nat->FV}{ob:List (Option Ob)}{Q:Post}{ops:Array Oper}{late:Nat->Bool}{K fr:List Nat}{on:Bool}{fuel:Nat}{listed:Array Bool}{z:Int}(t m:Nat) (k:WD x ops Q late K fr on fuel listed (bG g t (.one (tv (.int .i64 (m:Int))))) ob) (ht:g t=.one (tv (.int .i64 z)):=by rfl) (e:z=(m:Int):=by omega):WD x ops Q late K fr on fuel listed g ob:=WD.cast ht (dN e) k
abbrev iN (n:Nat):FV:=.one (tv (.int .i64 (n:Int)))
abbrev pN (k:Nat):FV:=.one (.pt k 0)
theorem eE {x:Cx}{g:Nat->FV}{ob ob':List (Option Ob)}{Q:Post}{ops:Array Oper}{late:Nat->Bool}{K fr:List Nat}{fuel:Nat}{listed:Array Bool}{d t:Nat}{ty:TypeId}{pos:String}{af:Array Edge}{gd:Option (Nat×Bool)}(key i:Nat) (k:WD x ops Q late K (d::fr) true fuel (listed.setIfInBounds i true) (bG g d (.one (.pt key 0))) ob') (hr:Region.ready .any ops listed=[i]:=by kernel_rfl) (hi:ops[i]? =some ⟨some d,.alloc t,ty,pos,af,gd⟩:=by rfl) (hw:bK ops x.n g gd=some true:=by rfl) (hT:cH x.P ttab:=by exact aR) (h:Cm ttab t key ob=some ob':=by rfl) (hke:nO ob ob' K:=by repeat' first | exact trivial | refine⟨rfl,?_⟩):WD x ops Q late K fr true (fuel+1) listed g ob:=aCS i hr hi hw hT h hke k
theorem bQ {x:Cx}{g:Nat->FV}{ob ob':List (Option Ob)}{Q:Post}{ops:Array Oper}{late:Nat->Bool}{K fr:List Nat}{fuel:Nat}{listed:Array Bool}{d t:Nat}{ty:TypeId}{pos:String}{af:Array Edge}{gd:Option (Nat×Bool)}(key i:Nat) (k:WD x ops Q late K (d::fr) true fuel (listed.setIfInBounds i true) (bG g d (.one (.pt key 0))) ob') (hi:ops[i]? =some ⟨some d,.alloc t,ty,pos,af,gd⟩:=by rfl) (hw:bK ops x.n g gd=some true:=by rfl) (hT:cH x.P ttab:=by exact aR) (h:Cm ttab t key ob=some ob':=by rfl) (hke:nO ob ob' K:=by repeat' first | exact trivial | refine⟨rfl,?_⟩):WO x ops Q late K fr true fuel listed i g ob:=aCT i hi hw hT h hke k
theorem aT {x:Cx}{g:Nat->FV}{ob:List (Option Ob)}{ob':List (Option Ob)}{Q:Post}{ops:Array Oper}{late:Nat->Bool}{K:List Nat}{fr:List Nat}{fuel:Nat}{listed:Array Bool}{t:Nat}{ty:TypeId}{pos:String}{af:Array Edge}{gd:Option (Nat×Bool)}{key o:Nat}{ti:TI}{a b:Operand}(i:Nat) (k:WD x ops Q late K fr true fuel (listed.setIfInBounds i true) g ob') (hr:Region.ready .any ops listed=[i]:=by kernel_rfl) (hi:ops[i]? =some ⟨none,.store t a b,ty,pos,af,gd⟩:=by rfl) (hw:bK ops x.n g gd=some true:=by rfl) (hT:cH x.P ttab:=by exact aR) (hti:bX ttab t=some ti:=by rfl) (h:zI ti ob (lk x.n g b) (lk x.n g a)=some ob':=by rfl) (hlk:lk x.n g a=.one (.pt key o):=by rfl) (hK:K.contains key=false:=by rfl) (hke:nO ob ob' K:=by repeat' first | exact trivial | refine⟨rfl,?_⟩):WD x ops Q late K fr true (fuel+1) listed g ob:=aBu i hr hi hw hT hti h hlk hK hke k
theorem bM {x:Cx}{g:Nat->FV}{ob:List (Option Ob)}{Q:Post}{ops:Array Oper}{late:Nat->Bool}{K:List Nat}{fr:List Nat}{fuel:Nat}{listed:Array Bool}{d:Nat}{ty:TypeId}{pos:String}{af:Array Edge}{gd:Option (Nat×Bool)}{op:Op}{on:Bool}{C:Prop}{v:FV}(i:Nat) (k:WD x ops Q late K (d::fr) on fuel (listed.setIfInBounds i true) (bG g d v) ob) (hr:Region.ready .any ops listed=[i]:=by kernel_rfl) (hi:ops[i]? =some ⟨some d,op,ty,pos,af,gd⟩:=by rfl) (hw:bK ops x.n g gd=some true:=by rfl) (hT:cH x.P ttab:=by exact aR) (h:yP ttab x.n g op=some (C,v):=by rfl) (hC:C:=by trivial) (hl:late i=false->on=true:=by intro h;first | rfl | cases h):WD x ops Q late K fr on (fuel+1) listed g ob:=d_v i hr hi hw hT h hC k hl
theorem dD {x:Cx}{g:Nat->FV}{ob:List (Option Ob)}{Q:Post}{ops:Array Oper}{late:Nat->Bool}{K:List Nat}{fr:List Nat}{fuel:Nat}{listed:Array Bool}{on:Bool}(i j:Nat) (h:WO x ops Q late K fr on fuel listed i g ob) (h':WO x ops Q late K fr on fuel listed j g ob) (hr:Region.ready .any ops listed=[i,j]:=by kernel_rfl):WD x ops Q late K fr on (fuel+1) listed g ob:=WO.two hr h h'
theorem wK {x:Cx}{g:Nat->FV}{ob:List (Option Ob)}{Q:Post}{ops:Array Oper}{late:Nat->Bool}{K:List Nat}{fr:List Nat}{fuel:Nat}{listed:Array Bool}{on:Bool}(i j m:Nat) (h:WO x ops Q late K fr on fuel listed i g ob) (h':WO x ops Q late K fr on fuel listed j g ob) (h3:WO x ops Q late K fr on fuel listed m g ob) (hr:Region.ready .any ops listed=[i,j,m]:=by kernel_rfl):WD x ops Q late K fr on (fuel+1) listed g ob:=WO.three hr h h' h3
theorem bU {x:Cx}{g:Nat->FV}{ob:List (Option Ob)}{Q:Post}{id:Nat}{l:List Oper}(K L:List Nat) (h:WD x l.toArray Q (fun i=>L.contains i) K [] true l.toArray.size (Array.replicate l.toArray.size false) g ob) (hm:x.P.follows .mixedOrders=true:=by exact mixed):WP x (.region id l.toArray true) g ob Q:=rd K (fun i=>L.contains i) hm h
theorem fU {x:Cx}{g:Nat->FV}{ob:List (Option Ob)}{Q:Post}{ops:Array Oper}{rest:List Oper}{a:Bool}(t:Nat) (b:Bool) (hg:g t=.one (tv (.bool a))) (h:a=b) (k:WL x ops rest (bG g t (.one (tv (.bool b)))) ob Q):WL x ops rest g ob Q:=WL.cast (t:=t) hg (congrArg Value.bool h) k
theorem qR {x:Cx}{g:Nat->FV}{ob:List (Option Ob)}{Q:Post}{ops:Array Oper}{late:Nat->Bool}{K fr:List Nat}{on:Bool}{fuel:Nat}{listed:Array Bool}{a:Bool}(t:Nat) (b:Bool) (hg:g t=.one (tv (.bool a))) (h:a=b) (k:WD x ops Q late K fr on fuel listed (bG g t (.one (tv (.bool b)))) ob):WD x ops Q late K fr on fuel listed g ob:=WD.cast (t:=t) hg (congrArg Value.bool h) k
theorem Lh {x:Cx}{g:Nat->FV}{ob:List (Option Ob)}{Q:Post}{ops:Array Oper}{rest:List Oper}{a:Int}(t m:Nat) (hg:g t=.one (tv (.int .u8 a))) (h:a=(m:Int)) (k:WL x ops rest (bG g t (.one (tv (.int .u8 (m:Int))))) ob Q):WL x ops rest g ob Q:=WL.cast (t:=t) hg (dN h) k
theorem ud9 {x:Cx}{g:Nat->FV}{ob:List (Option Ob)}{Q:Post}{ops:Array Oper}{late:Nat->Bool}{K fr:List Nat}{on:Bool}{fuel:Nat}{listed:Array Bool}{a:Int}(t m:Nat) (hg:g t=.one (tv (.int .u8 a))) (h:a=(m:Int)) (k:WD x ops Q late K fr on fuel listed (bG g t (.one (tv (.int .u8 (m:Int))))) ob):WD x ops Q late K fr on fuel listed g ob:=WD.cast (t:=t) hg (dN h) k
theorem AZ {x:Cx}{g:Nat->FV}{ob:List (Option Ob)}{Q:Post}{ops:Array Oper}{rest:List Oper}{a:Int}(t m:Nat) (hg:g t=.one (tv (.int .u32 a))) (h:a=(m:Int)) (k:WL x ops rest (bG g t (.one (tv (.int .u32 (m:Int))))) ob Q):WL x ops rest g ob Q:=WL.cast (t:=t) hg (dN h) k
theorem vd9 {x:Cx}{g:Nat->FV}{ob:List (Option Ob)}{Q:Post}{ops:Array Oper}{late:Nat->Bool}{K fr:List Nat}{on:Bool}{fuel:Nat}{listed:Array Bool}{a:Int}(t m:Nat) (hg:g t=.one (tv (.int .u32 a))) (h:a=(m:Int)) (k:WD x ops Q late K fr on fuel listed (bG g t (.one (tv (.int .u32 (m:Int))))) ob):WD x ops Q late K fr on fuel listed g ob:=WD.cast (t:=t) hg (dN h) k
theorem fW {fresh:Bool}{x:Cx}{T:List (Nat×TI)}{rv:List ResultVar}{e:Exit}{g:Nat->FV}{ob:List (Option Ob)}{b c:ByteArray}(he:e=.ret\/e=.normal) (res:sH T x.n g ob rv=some [.one (tv (.string b))]) (h:b=c):rA x T rv fresh [] (aP (.one (tv (.string c)))) e g ob:=en he res (bB (bO _)) (by decide) (fun _=>trivial) (by rw[h];rfl)
theorem Ho {fresh:Bool}{x:Cx}{T:List (Nat×TI)}{rv:List ResultVar}{e:Exit}{g:Nat->FV}{ob:List (Option Ob)}{b c:Int}(he:e=.ret\/e=.normal) (res:sH T x.n g ob rv=some [.one (tv (.int .i64 b))]) (h:b=c):rA x T rv fresh [] (aP (.one (tv (.int .i64 c)))) e g ob:=en he res (bB (bO _)) (by decide) (fun _=>trivial) (by rw[h];rfl)
def lE (pt:Nat) (yr:Int) (k:Nat) (e:Int):List Tr:=[.v (.int .u8 ((pt:Nat):Int)),.v (.int .i64 yr),.v (.int .i64 ((k:Nat):Int)),.v (.int .i64 e)]
theorem qD {fresh:Bool}{x:Cx}{T:List (Nat×TI)}{rv:List ResultVar}{g:Nat->FV}{ob:List (Option Ob)}{ty pt k:Nat}{yr n:Int}{rs:List FV}{ks:List Nat}{R:List Lt->FV->Prop}(res:sH T x.n g ob rv=some rs) (pk:Mi ob 0 rs (.one (.t (.p true ty (lE pt yr k n)))) ks) (post:R [] (.one (.t (.p true ty (lE pt yr k n))))) (nd:ks.Nodup:=by decide):rA x T rv fresh [] R .ret g ob:=en (.inl rfl) res pk nd (fun _=>⟨rfl,trivial,trivial,trivial,trivial,trivial⟩) post
theorem bD {fresh:Bool}{P:Program}{f:FuncId}{fn:Func}{c:Code}{n:Nat}{rv:List ResultVar}{args:List FV}{R:List Lt->FV->Prop}(hf:P.funcs[f]? =some fn) (hn:fn.ntmps=n) (h:∀N w c0,c0.length=0->WP ⟨P,N,[],w,n,c0⟩ c (bP (oD 0 args)) [] (rA ⟨P,N,[],w,n,c0⟩ ttab rv fresh [] R)) (hb:fn.body=some c:=by rfl) (hrv:fn.results.toList=rv:=by rfl) (hT:cH P ttab:=by exact aR) (hle:Nat.ble args.length n=true:=by rfl):aE fresh P f [] args R:=fn0 hf hb hn hrv hT hle h
theorem aM {fresh:Bool}{x:Cx}{g:Nat->FV}{ob:List (Option Ob)}{o:Operand}{l:List Tr}(h:lk x.n g o=.agg (l.map .t)):AL fresh x g ob [o] [.agg (l.map .t)]:=⟨nD h,rfl⟩
theorem bC {fresh:Bool}{x:Cx}{g:Nat->FV}{ob:List (Option Ob)}{o:Operand}{y:Tr}(h:lk x.n g o=.one (.t y)):AL fresh x g ob [o] [.one (.t y)]:=⟨a1 h,rfl⟩
theorem bN {fresh:Bool}{x:Cx}{g:Nat->FV}{ob:List (Option Ob)}{o p:Operand}{l m:List Tr}(h:lk x.n g o=.agg (l.map .t)) (h2:lk x.n g p=.agg (m.map .t)):AL fresh x g ob [o,p] [.agg (l.map .t),.agg (m.map .t)]:=⟨nD h,nD h2,rfl⟩
theorem cO {fresh:Bool}{x:Cx}{g:Nat->FV}{ob:List (Option Ob)}{o p:Operand}{y z:Tr}(h:lk x.n g o=.one (.t y)) (h2:lk x.n g p=.one (.t z)):AL fresh x g ob [o,p] [.one (.t y),.one (.t z)]:=⟨a1 h,a1 h2,rfl⟩
theorem DH {β:Type}:∀{o:Nat}{l:List AV}{a:AV}{r:List AV}{k:List AV->Option β},l.drop o=a::r->dp o l k=k (a::r)
 | 0,l,a,r,k,h=>by rw[List.drop_zero]at h;subst h;rfl
 | o+1,[],a,r,k,h=>by simp at h
 | o+1,b::l,a,r,k,h=>by
  rw[List.drop_succ_cons]at h
  exact DH (o:=o) h
theorem Rj {ob:List (Option Ob)}{i:TI}{k o t z:Nat}{l:List AV}{a:AV}(ho:cR ob k=some ⟨t,z,l⟩) (hx:l[o]? =some a) (ha:i.agg=false) (hr:rL a=true):yQ ob i (.one (.pt k o))=some (True,.one a):=by
 obtain⟨h1,h2⟩:=List.getElem?_eq_some_iff.1 hx
 have h3:l.drop o=a::l.drop (o+1):=by rw[List.drop_eq_getElem_cons h1,h2]
 unfold yQ
 dsimp only
 rw[ho]
 dsimp only
 unfold XT
 rw[DH h3,ha]
 simp[Qq,fQ,hr,ev]
section
variable {x:Cx}{g:Nat->FV}{ob ob':List (Option Ob)}{Q:Post}{ops:Array Oper}{rest:List Oper}{d:Nat}{ty:TypeId}{pos:String}{af:Array Edge}{gd:Option (Nat×Bool)}{T:List (Nat×TI)}
theorem aBv {t e by_ k m:Nat}{ti:Bool}{ts0:Nat}{z0:List Value}{kk k1 k2:IntKind}{a b:Operand}(hT:cH x.P T) (ht:bX T t=some ⟨ti,ts0,z0,.sl e 1 by_ (.int kk 0)⟩) (ha:lk x.n g a=.one (tv (.int k1 (m:Int)))) (hb:lk x.n g b=.one (tv (.int k2 (m:Int)))) (hby:by_<=16) (hm:m<=8796093022208) (hk:eM ob k=true):
  OS x ⟨some d,.makeSlice t a b,ty,pos,af,gd⟩ g ob [] (fun g' ob2=>g'=bG g d (.one (.sl k 0 m))/\ob2=ob++[some ⟨e,1,(List.replicate m (Value.int kk 0)).map tv⟩]):=by
 obtain⟨_,hel⟩:=(dX hT ht).2.2.2
 obtain⟨hu,i,hi,hz,hsize,hby',hzs,hsz⟩:=hel
 subst hby'
 have hk:=Nat.eq_of_beq_eq_true hk
 subst hk
 intro cs ts W hR K Q' kk'
 have e1:=hR.lk a
 rw[ha]at e1
 have e1:=bE e1
 have e2:=hR.lk b
 rw[hb]at e2
 have e2:=bE e2
 have hmul:i.bytes*m<=16*8796093022208:=Nat.mul_le_mul hby hm
 obtain⟨w',hrun,h1,h2⟩:=run_make_full (P:=x.P) W 0 t e i (.int kk 0) 1 hu hi hz hsize k1 k2 m (by omega) (by unfold maxLen;omega) (Nat.zero_le _)
 have hrun':(execOp (Act.eval ⟨ts,[]⟩) ⟨some d,.makeSlice t a b,ty,pos,af,gd⟩).run x.P W=.ok (.value (.slice (some ⟨W.heap.size,0,none⟩) m m)) w':=by
  simp[execOp,e1,e2,hrun]
 have e0:(madeCells (Value.int kk 0).cells (m*1)).toList=List.replicate m (.int kk 0):=by
  rw[Nat.mul_one]
  show(madeCells #[Value.int kk 0] m).toList=_
  rw[toList_madeCells_one]
 rw[e0]at h1
 generalize hus:List.replicate m (Value.int kk 0)=us at h1 kk'
 have hbl:Below W.heap.size W w':=(Below.refl _ _).grown h2 (aX _) (fun k hk=>by cases hk)
 rcases h1.2 with⟨hh,_⟩ | ⟨g1,cap,cur,hv,_,hg,hnc,hcm,hcs,htake⟩
 ·injection hh with h3;cases h3
 injection hv with q1 q2 q3
 injection q1 with q1
 injection q1 with q1
 subst q1 q3
 have hlt:W.heap.size<w'.heap.size:=(Array.getElem?_eq_some_iff.1 hg).1
 have hcur:cur.toList=us:=by
  have h9:cur.toList.length=m*1:=by simpa using hcs
  rw[<-htake,cT (by omega)]
 have hS:∀b∈(aQ (some ⟨e,1,us.map tv⟩) ⟨some W.heap.size,m,us.map .w⟩).S,W.heap.size<=b/\b<w'.heap.size:=by
  intro b hb
  simp[aQ,oP]at hb
  subst hb
  exact⟨aX _,hlt⟩
 have hown:∀b∈dO (ob++[some ⟨e,1,us.map tv⟩]) (cs++[⟨some W.heap.size,m,us.map .w⟩]),b∈dO ob cs\/W.heap.size<=b:=by
  intro b hb
  unfold dO aL at hb
  rw[List.zipWith_append hR.len,List.flatMap_append,List.mem_append]at hb
  rcases hb with hb | hb
  ·exact .inl hb
  exact .inr (hS b (by simpa using hb)).1
 have m1:RelC x g (ob++[some ⟨e,1,us.map tv⟩]) (cs++[⟨some W.heap.size,m,us.map .w⟩]) ts w':=by
  refine hR.push hbl _ _ ?_ hS (by simp[aQ,oP]) ?_ (fun e=>by cases e)
  ·have hul:us.length=m:=by rw[<-hus,List.length_replicate]
   simp only[aQ,wZ]
   refine⟨⟨[],?_,by simp[hul]⟩,wY _,hcm⟩
   rw[List.append_nil,hg,<-hcur]
  exact vS (pH _) (yR _)
 refine eN hrun' (kk' _ _ _ _ _ ⟨rfl,rfl⟩ (m1.put d ?_) ((Aft.mk .app (fun k _ hk=>pJ hk) hbl.size (fun b hlt _=>hbl.block b hlt) hown (fun _ _=>rfl):Aft [] (some d) ob cs ts W _ _ ts w').then_put _))
 refine jX ?_
 simp only[AR]
 rw[hR.len,iT]
 exact⟨by simp[hR.len],0,m,rfl,aX _,hcm,fun _=>rfl,fun _=>rfl⟩
inductive FzN (key:Nat):List AV->List AV->Prop
 | nil:FzN key [] []
 | id {a:AV}{l l':List AV}(h:FzN key l l'):FzN key (a::l) (a::l')
 | sl {l l':List AV}(h:FzN key l l'):FzN key (tv (.slice none 0 0)::l) (.sl key 0 0::l')
theorem FzN.ok {key:Nat}{W:World}{N:Nat->Prop}{cs:List Co}(hk:key<cs.length) (hb:(co cs key).b=none):∀{l l':List AV},FzN key l l'->∀{ys:List VT},bZ W N cs l ys->bZ W N cs l' ys
 | _,_,.nil,ys,h=>h
 | _,_,.id h',[],h=>by simp only[bZ]at h
 | _,_,.id h',y::ys,h=>by
  simp only[bZ]at h⊢
  exact⟨h.1,FzN.ok hk hb h' h.2⟩
 | _,_,.sl h',[],h=>by simp only[bZ]at h
 | _,_,.sl h',y::ys,h=>by
  simp only[bZ]at h⊢
  refine⟨?_,FzN.ok hk hb h' h.2⟩
  have h1:=h.1
  simp only[tv,CR,OR]at h1
  subst h1
  simp only[CR,AR,hb]
  exact⟨hk,trivial,trivial,trivial⟩
theorem FzN.nl {key:Nat}:∀{l l':List AV},FzN key l l'->(l=[]↔l'=[])
 | _,_,.nil=>Iff.rfl
 | _,_,.id h'=>by simp
 | _,_,.sl h'=>by simp
theorem Bp {j key e z t' z':Nat}{l l':List AV}(hz:Nat.beq z 0=false) (hk:eM ob key=true) (ho:cR ob j=some ⟨t',z',l⟩) (hl:FzN key l l'):Sub x g ob g (ob.set j (some ⟨t',z',l'⟩)++[some ⟨e,z,[]⟩]):=by
 rintro ts W ⟨cs,hR⟩
 have hk:=Nat.eq_of_beq_eq_true hk
 have hj:=dL ho
 have hz0:z≠0:=fun e=>by subst e;simp at hz
 have hlt:=(List.getElem?_eq_some_iff.1 hj).1
 have m1:=hR.push (Below.refl _ _) ⟨e,z,[]⟩ ⟨none,0,[]⟩ (by simp[aQ]) (by simp[aQ]) (by simp[aQ]) (by simp[bZ]) (fun _=>⟨rfl,hz0⟩)
 have hj':(ob++[some ⟨e,z,[]⟩])[j]? =some (some ⟨t',z',l⟩):=by rw[List.getElem?_append_left hlt];exact hj
 have hb0:(co (cs++[⟨none,0,[]⟩]) key).b=none:=by rw[<-hk,hR.len,iT]
 have hkl:key<(cs++[(⟨none,0,[]⟩:Co)]).length:=by rw[<-hk,hR.len];simp
 have hm:=m1.obs.2 j _ hj'
 have hup:=m1.upd hj' ⟨t',z',l'⟩ (co (cs++[⟨none,0,[]⟩]) j) (Chg.refl _ _) rfl rfl (by rw[oC l' l];exact m1.res hj') (fun b hb=>.inl (by rw[oC l l'];exact hb)) (by rw[oC l' l];exact m1.2.nd1 (List.mem_of_getElem? (cA m1.len hj')))
  (fun h1 h2 h3=>by
   have h4:bZ W (x.fr W (ob++[some ⟨e,z,[]⟩]) (cs++[⟨none,0,[]⟩])) (cs++[⟨none,0,[]⟩]) l' (co (cs++[⟨none,0,[]⟩]) j).l:=hl.ok hkl hb0 hm.1
   exact dI (fun _ _=>rfl) h2 h3 _ _ h4) (fun hb=>by
   have:=hm.2 hb
   exact⟨hl.nl.1 this.1,this.2⟩)
 have e1:(ob++[some (⟨e,z,[]⟩:Ob)]).set j (some ⟨t',z',l'⟩)=ob.set j (some ⟨t',z',l'⟩)++[some ⟨e,z,[]⟩]:=List.set_append_left _ _ hlt
 rw[e1]at hup
 exact⟨_,hup.1⟩
theorem mk {t e by_ m:Nat}{ti:Bool}{ts0:Nat}{z0:List Value}{kk k1 k2:IntKind}{a b:Operand}(key:Nat) (hm:m<=8796093022208){l:List AV}(hl:(List.replicate m (Value.int kk 0)).map tv=l) (k:WL x ops rest (bG g d (.one (.sl key 0 m))) (ob++[some ⟨e,1,l⟩]) Q) (hT:cH x.P ttab:=by exact aR) (hw:bK ops x.n g gd=some true:=by rfl)
  (ht:bX ttab t=some ⟨ti,ts0,z0,.sl e 1 by_ (.int kk 0)⟩:=by rfl) (ha:lk x.n g a=.one (tv (.int k1 (m:Int))):=by rfl) (hb:lk x.n g b=.one (tv (.int k2 (m:Int))):=by rfl) (hby:by_<=16:=by decide) (hk:eM ob key=true:=by rfl):WL x ops (⟨some d,.makeSlice t a b,ty,pos,af,gd⟩::rest) g ob Q:=by
 subst hl
 exact gY (aBv hT ht ha hb hby hm hk) hw (by rintro _ _ ⟨rfl,rfl⟩;exact k)
theorem YC {t key o t' z':Nat}{ti:TI}{a:Operand}{l:List AV}{v:AV}(hx:l[o]? =some v) (k:WL x ops rest (bG g d (.one v)) ob Q) (hT:cH x.P ttab:=by exact aR) (hw:bK ops x.n g gd=some true:=by rfl) (hti:bX ttab t=some ti:=by rfl) (hlk:lk x.n g a=.one (.pt key o):=by rfl) (ho:cR ob key=some ⟨t',z',l⟩:=by rfl) (ha:ti.agg=false:=by rfl) (hr:rL v=true:=by rfl):
  WL x ops (⟨some d,.load t a,ty,pos,af,gd⟩::rest) g ob Q:=XW hT hw hti (by rw[hlk];exact Rj ho hx ha hr) k
theorem Li {t key o t' z':Nat}{ti:TI}{a b:Operand}{l l' us:List AV}(hl:eD l o us=l') (hle:o+us.length<=l.length) (k:WL x ops rest g (ob.set key (some ⟨t',z',l'⟩)) Q) (hT:cH x.P ttab:=by exact aR) (hw:bK ops x.n g gd=some true:=by rfl) (hti:bX ttab t=some ti:=by rfl) (hlk:lk x.n g a=.one (.pt key o):=by rfl) (ho:cR ob key=some ⟨t',z',l⟩:=by rfl)
  (hb:Cl (lk x.n g b)=some us:=by rfl) (hlo:dR us=true:=by rfl) (hsz:Nat.beq us.length ti.size=true:=by rfl):WL x ops (⟨none,.store t a b,ty,pos,af,gd⟩::rest) g ob Q:=
 gY (Ir hT hti hlk hb hlo hsz ho hle hl) hw (by rintro _ _ ⟨rfl,rfl⟩;exact k)
variable {late:Nat->Bool}{K fr:List Nat}{on:Bool}{fuel:Nat}{listed:Array Bool}
theorem aCV {t key o t' z':Nat}{ti:TI}{a:Operand}{l:List AV}{v:AV}(i:Nat) (hx:l[o]? =some v) (k:WD x ops Q late K fr true fuel (listed.setIfInBounds i true) (bG g d (.one v)) ob) (hT:cH x.P ttab:=by exact aR) (hi:ops[i]? =some ⟨some d,.load t a,ty,pos,af,gd⟩:=by rfl) (hst:pY ops late listed i=true:=by kernel_rfl) (hw:bK ops x.n g gd=some true:=by rfl) (hti:bX ttab t=some ti:=by rfl)
  (hlk:lk x.n g a=.one (.pt key o):=by rfl) (hK:K.contains key=true:=by rfl) (ho:cR ob key=some ⟨t',z',l⟩:=by rfl) (ha:ti.agg=false:=by rfl) (hr:rL v=true:=by rfl):WD x ops Q late K fr true (fuel+1) listed g ob:=dl i hT hi hst hw hti hlk hK (Rj ho hx ha hr) k
theorem FU {t key o t' z':Nat}{ti:TI}{a b:Operand}{l l' us:List AV}(i:Nat) (hl:eD l o us=l') (hle:o+us.length<=l.length) (k:WD x ops Q late K fr false fuel (listed.setIfInBounds i true) g (ob.set key (some ⟨t',z',l'⟩))) (hT:cH x.P ttab:=by exact aR) (hr:Region.ready .any ops listed=[i]:=by kernel_rfl) (hi:ops[i]? =some ⟨none,.store t a b,ty,pos,af,gd⟩:=by rfl) (hw:bK ops x.n g gd=some true:=by rfl) (hti:bX ttab t=some ti:=by rfl)
  (hlk:lk x.n g a=.one (.pt key o):=by rfl) (ho:cR ob key=some ⟨t',z',l⟩:=by rfl) (hb:Cl (lk x.n g b)=some us:=by rfl) (hlo:dR us=true:=by rfl) (hsz:Nat.beq us.length ti.size=true:=by rfl) (hlate:late i=true:=by rfl):WD x ops Q late K fr on (fuel+1) listed g ob:=by
 refine Mc i hr hi hw (Ir (ty:=ty) (pos:=pos) (af:=af) (gd:=gd) hT hti hlk hb hlo hsz ho hle hl) false (fun h=>by cases h) (fun h=>by rw[hlate]at h;cases h) (fun h=>by cases h) fun g' ob' hR=>?_
 obtain⟨rfl,rfl⟩:=hR
 exact k
end
theorem Loc.cut {M:List Nat}{w W:World}{L L':List Res}{F:List Sh}(h:Loc M w W L F) (hc:∀b,(L'.flatMap Res.S).count b<=(L.flatMap Res.S).count b) (hφ:∀r∈L',r.φ W):Loc M w W L' F:=by
 have hin:∀b,b∈L'.flatMap Res.S->b∈L.flatMap Res.S:=fun b hb=>List.count_pos_iff.1 (Nat.lt_of_lt_of_le (List.count_pos_iff.2 hb) (hc b))
 exact⟨h.chg,hφ,fun b hb=>h.blk b (hin b hb),List.nodup_iff_count.2 fun b=>Nat.le_trans (hc b) (List.nodup_iff_count.1 h.nd b),fun q hq=>q.mono _ _ _ (fun b hb=>⟨hb.1,fun hm=>hb.2 (hin b hm)⟩) (h.shr q hq)⟩
theorem Km {y y':VT}(b:Nat):∀{l:List VT}{p:Nat},l[p]? =some y->(VT.fpL (l.set p y')).count b+y.fp.count b=(VT.fpL l).count b+y'.fp.count b
 | [],_,h=>by simp at h
 | z::l,0,h=>by
  simp at h
  subst h
  simp only[List.set_cons_zero,VT.fpL,List.count_append]
  omega
 | z::l,p+1,h=>by
  have:=Km (y':=y') b (l:=l) (p:=p) (by simpa using h)
  simp only[List.set_cons_succ,VT.fpL,List.count_append]
  omega
theorem Kn {W:World}{y':VT}(hy:y'.ok W):∀{l:List VT}{p:Nat},VT.okL W l->VT.okL W (l.set p y')
 | [],_,h=>by simpa using h
 | z::l,0,h=>by
  simp only[VT.okL]at h
  simp only[List.set_cons_zero,VT.okL]
  exact⟨hy,h.2⟩
 | z::l,p+1,h=>by
  simp only[VT.okL]at h
  simp only[List.set_cons_succ,VT.okL]
  exact⟨h.1,Kn hy h.2⟩
theorem Wb {y y':VT}(hv:y'.val=y.val){l:List VT}{p:Nat}(h:l[p]? =some y):(l.set p y').map VT.val=l.map VT.val:=by
 rw[List.map_set,hv]
 apply List.ext_getElem?
 intro j
 rw[List.getElem?_set]
 split
 ·rename_i e
  subst e
  obtain⟨h1,h2⟩:=List.getElem?_eq_some_iff.1 h
  simp[h1,h2]
 rfl
theorem Ko {W:World}{N:Nat->Prop}{cs:List Co}{a:AV}{y:VT}(ha:CR W N cs a y):∀{l:List AV}{ys:List VT}{p:Nat},bZ W N cs l ys->bZ W N cs (l.set p a) (ys.set p y)
 | [],ys,p,h=>by
  simp only[bZ]at h
  subst h
  simp[bZ]
 | b::l,[],p,h=>by simp only[bZ]at h
 | b::l,z::ys,0,h=>by
  simp only[bZ]at h
  simp only[List.set_cons_zero,bZ]
  exact⟨ha,h.2⟩
 | b::l,z::ys,p+1,h=>by
  simp only[bZ]at h
  simp only[List.set_cons_succ,bZ]
  exact⟨h.1,Ko ha h.2⟩
section
variable {x:Cx}{g g':Nat->FV}{ob ob':List (Option Ob)}{cs cs':List Co}{ts ts':Array Value}{W W':World}{T:List (Nat×TI)}{Q:Post}{ops:Array Oper}{rest:List Oper}
theorem Same.set {k:Nat}{c:Co}(hk:k<cs.length) (hb:c.b=(co cs k).b) (hc:c.c=(co cs k).c):Same cs (cs.set k c):=⟨by simp,fun j hj=>by
 rw[pK hk]
 split
 ·rename_i e
  subst e
  exact⟨hb,hc⟩
 exact⟨rfl,rfl⟩⟩
theorem aCW {j key p t' z':Nat}{l l':List AV}{q:Tr}{a':AV}{o:Ob}(hk:eM ob key=true) (hb9:Ct key (.t q)=some (a',[o])) (hcr:∀{W:World}{N:Nat->Prop}{cs:List Co}{u:Value},AR W N cs a' u->CR W N cs a' (.w u)) (ho:cR ob j=some ⟨t',z',l⟩) (hp:l[p]? =some (.t q)) (hl:l.set p a'=l'):Sub x g ob g (ob.set j (some ⟨t',z',l'⟩)++[some o]):=by
 subst hl
 rintro ts W ⟨cs,hR⟩
 have hk:=Nat.eq_of_beq_eq_true hk
 have hj:=dL ho
 have hcl:=hR.crl hj
 obtain⟨y,hy,hr⟩:=Ef hcl hp
 have hlt:=(List.getElem?_eq_some_iff.1 hj).1
 have hlen:=hR.len
 have hjl:j<cs.length:=by omega
 cases hbj:(co cs j).b with
 | none=>
  have:=((hR.obs.2 j _ hj).2 hbj).1
  dsimp only at this
  subst this
  simp at hp
 | some bj=>
  obtain⟨⟨rs,k1,k1l⟩,k2,k3⟩:=hR.blk hj hbj
  have hyok:=Kj k2 hy
  rcases Eh (k:=key) (a:=.t q) (a':=a') (os:=[o]) (N:=x.fr W ob cs) (by simpa only[CR]using hr) hyok hb9 with⟨h0,_⟩ | ⟨o1,h0,hS,hφ,hA,hnone⟩
  ·cases h0
  injection h0 with h0
  subst h0
  have hval:(VT.w y.val).val=y.val:=rfl
  have hsame1:=Same.set (c:=⟨(co cs j).b,(co cs j).c,(co cs j).l.set p (.w y.val)⟩) hjl rfl rfl
  have hsame:Same cs (cs.set j ⟨(co cs j).b,(co cs j).c,(co cs j).l.set p (.w y.val)⟩++[lY y]):=hsame1.trans .app
  have hcok:co (cs.set j ⟨(co cs j).b,(co cs j).c,(co cs j).l.set p (.w y.val)⟩++[lY y]) key=lY y:=by
   have:=iT (cs:=cs.set j ⟨(co cs j).b,(co cs j).c,(co cs j).l.set p (.w y.val)⟩) (c:=lY y)
   rwa[List.length_set,<-hlen,hk]at this
  have hcoj:co (cs.set j ⟨(co cs j).b,(co cs j).c,(co cs j).l.set p (.w y.val)⟩++[lY y]) j=⟨(co cs j).b,(co cs j).c,(co cs j).l.set p (.w y.val)⟩:=by
   rw[pJ (by simpa using hjl),pK hjl,if_pos rfl]
  have hrs:aL (ob.set j (some ⟨t',z',l.set p a'⟩)++[some o]) (cs.set j ⟨(co cs j).b,(co cs j).c,(co cs j).l.set p (.w y.val)⟩++[lY y])=(aL ob cs).set j (aQ (some ⟨t',z',l.set p a'⟩) ⟨(co cs j).b,(co cs j).c,(co cs j).l.set p (.w y.val)⟩)++[aQ (some o) (lY y)]:=by
   rw[<-mZ]
   unfold aL
   rw[List.zipWith_append (by simpa using hlen)]
   rfl
  have m:=hR.recut (ob':=ob.set j (some ⟨t',z',l.set p a'⟩)++[some o]) (cs':=cs.set j ⟨(co cs j).b,(co cs j).c,(co cs j).l.set p (.w y.val)⟩++[lY y]) (fun b=>by
   have h1:=uY (r':=aQ (some ⟨t',z',l.set p a'⟩) ⟨(co cs j).b,(co cs j).c,(co cs j).l.set p (.w y.val)⟩) (cA hlen hj) b
   have h2:=Km (y':=.w y.val) b hy
   have h3:(aQ (some ⟨t',z',l⟩) (co cs j)).S=bj::VT.fpL (co cs j).l:=by simp[aQ,hbj]
   have h4:(aQ (some ⟨t',z',l.set p a'⟩) ⟨(co cs j).b,(co cs j).c,(co cs j).l.set p (.w y.val)⟩).S=bj::VT.fpL ((co cs j).l.set p (.w y.val)):=by simp[aQ,hbj]
   have h5:(VT.w y.val).fp=[]:=rfl
   rw[h3,h4,List.count_cons,List.count_cons]at h1
   rw[h5,List.count_nil]at h2
   unfold dO
   rw[hrs,List.flatMap_append,List.count_append,List.flatMap_cons,List.flatMap_nil,List.append_nil,hS]
   omega) (fun r hr'=>by
   rw[hrs]at hr'
   rcases List.mem_append.1 hr' with hr' | hr'
   ·rcases List.mem_or_eq_of_mem_set hr' with hr' | rfl
    ·exact hR.2.res r hr'
    simp only[aQ,hbj]
    rw[Wb hval hy]
    exact⟨⟨rs,k1,by rw[k1l];simp⟩,Kn (by simp[VT.ok]) k2,k3⟩
   ·simp at hr'
    subst hr'
    exact hφ) (fun hN=>by
   refine⟨by simp[hlen],fun i o9 hi=>?_⟩
   obtain⟨q1,q2⟩:=hA _ _ hN (by simp;omega) hcok
   rcases Nat.lt_or_ge i ob.length with hil | hil
   ·rw[List.getElem?_append_left (by simpa using hil)]at hi
    by_cases hij:j=i
    ·subst hij
     rw[List.getElem?_set_self hlt]at hi
     injection hi with hi
     injection hi with hi
     subst hi
     rw[hcoj]
     refine⟨Ko (hcr q1) (dI (fun _ _=>rfl) hN hsame _ _ hcl),fun h=>?_⟩
     rw[hbj]at h
     cases h
    rw[List.getElem?_set_ne hij]at hi
    have h1:=hR.obs.2 i o9 hi
    rw[pJ (by simp;omega),pK hjl,if_neg (fun h=>hij h.symm)]
    exact⟨dI (fun _ _=>rfl) hN hsame _ _ h1.1,h1.2⟩
   have e1:i=key:=by
    have:=(List.getElem?_eq_some_iff.1 hi).1
    simp at this
    omega
   subst e1
   rw[List.getElem?_append_right (by simp;omega)]at hi
   simp[hk]at hi
   subst hi
   rw[hcok]
   exact⟨q2,hnone⟩) hsame
  exact⟨_,m.1⟩
theorem VG {j key p e z n t' z':Nat}{l l':List AV}{trs:List Tr}(hk:eM ob key=true) (hz:Nat.beq z 0=false) (ho:cR ob j=some ⟨t',z',l⟩) (hp:l[p]? =some (.t (.s true e z n trs))) (hl:l.set p (.sl key 0 n)=l'):Sub x g ob g (ob.set j (some ⟨t',z',l'⟩)++[some ⟨e,z,trs.map .t⟩]):=
 aCW hk (by simp[Ct,hz]) (fun h=>by simpa only[CR]using h) ho hp hl
theorem aCX {j k p t' z':Nat}{l l':List AV}{a0:AV}{o:Ob}{q:Tr}(hne:Nat.beq j k=false) (ho:cR ob j=some ⟨t',z',l⟩) (hok:cR ob k=some o) (hp:l[p]? =some a0) (hcr:∀{W:World}{N:Nat->Prop}{cs:List Co}{y:VT},CR W N cs a0 y->∃u,y=.w u/\AR W N cs a0 u) (H:∀{cs:List Co}{ts:Array Value}{W:World}{u:Value},RelC x g ob cs ts W->AR W (x.fr W ob cs) cs a0 u->∃y':VT,y'.val=u/\OR W (x.fr W ob cs) q y'/\y'.ok W/\∀b,y'.fp.count b<=(aQ (some o) (co cs k)).S.count b) (hl:l.set p (.t q)=l'):Sub x g ob g ((ob.set j (some ⟨t',z',l'⟩)).set k none):=by
 subst hl
 rintro ts W ⟨cs,hR⟩
 have hjk:j≠k:=fun h=>by subst h;simp at hne
 have hj:=dL ho
 have hkk:=dL hok
 have hcl:=hR.crl hj
 obtain⟨y,hy,hr⟩:=Ef hcl hp
 have hlt:=(List.getElem?_eq_some_iff.1 hj).1
 have hkt:=(List.getElem?_eq_some_iff.1 hkk).1
 have hlen:=hR.len
 have hjl:j<cs.length:=by omega
 have hkl:k<cs.length:=by omega
 obtain⟨u,hy9,hr9⟩:=hcr hr
 subst hy9
 obtain⟨y',hv,hor,hyok,hfp⟩:=H hR hr9
 cases hbj:(co cs j).b with
 | none=>
  have:=((hR.obs.2 j _ hj).2 hbj).1
  dsimp only at this
  subst this
  simp at hp
 | some bj=>
  obtain⟨⟨rs,k1,k1l⟩,k2,k3⟩:=hR.blk hj hbj
  have hsame:=Same.set (c:=⟨(co cs j).b,(co cs j).c,(co cs j).l.set p y'⟩) hjl rfl rfl
  have hcoj:co (cs.set j ⟨(co cs j).b,(co cs j).c,(co cs j).l.set p y'⟩) j=⟨(co cs j).b,(co cs j).c,(co cs j).l.set p y'⟩:=by rw[pK hjl,if_pos rfl]
  have hcok:co (cs.set j ⟨(co cs j).b,(co cs j).c,(co cs j).l.set p y'⟩) k=co cs k:=by rw[pK hjl,if_neg (fun h=>hjk h.symm)]
  have hkl2:k<(cs.set j ⟨(co cs j).b,(co cs j).c,(co cs j).l.set p y'⟩).length:=by simpa using hkl
  have hrs:aL ((ob.set j (some ⟨t',z',l.set p (.t q)⟩)).set k none) (cs.set j ⟨(co cs j).b,(co cs j).c,(co cs j).l.set p y'⟩)=((aL ob cs).set j (aQ (some ⟨t',z',l.set p (.t q)⟩) ⟨(co cs j).b,(co cs j).c,(co cs j).l.set p y'⟩)).set k (aQ none (co cs k)):=by
   rw[<-mZ,<-mZ]
   congr 1
   rw[<-hcok]
   exact(uZ hkl2).symm
  have hk2:((aL ob cs).set j (aQ (some ⟨t',z',l.set p (.t q)⟩) ⟨(co cs j).b,(co cs j).c,(co cs j).l.set p y'⟩))[k]? =some (aQ (some o) (co cs k)):=by
   rw[List.getElem?_set_ne hjk]
   exact cA hlen hkk
  have m:=hR.recut (ob':=(ob.set j (some ⟨t',z',l.set p (.t q)⟩)).set k none) (cs':=cs.set j ⟨(co cs j).b,(co cs j).c,(co cs j).l.set p y'⟩) (fun b=>by
   have h1:=uY (r':=aQ (some ⟨t',z',l.set p (.t q)⟩) ⟨(co cs j).b,(co cs j).c,(co cs j).l.set p y'⟩) (cA hlen hj) b
   have h6:=uY (r':=aQ none (co cs k)) hk2 b
   have h2:=Km (y':=y') b hy
   have h3:(aQ (some ⟨t',z',l⟩) (co cs j)).S=bj::VT.fpL (co cs j).l:=by simp[aQ,hbj]
   have h4:(aQ (some ⟨t',z',l.set p (.t q)⟩) ⟨(co cs j).b,(co cs j).c,(co cs j).l.set p y'⟩).S=bj::VT.fpL ((co cs j).l.set p y'):=by simp[aQ,hbj]
   have h5:(VT.w u).fp=[]:=rfl
   have h7:(aQ none (co cs k)).S=[]:=by cases hb:(co cs k).b <;> simp[aQ]
   have h8:=hfp b
   rw[h3,h4,List.count_cons,List.count_cons]at h1
   rw[h5,List.count_nil]at h2
   rw[h7,List.count_nil]at h6
   unfold dO
   rw[hrs]
   omega) (fun r hr'=>by
   rw[hrs]at hr'
   rcases List.mem_or_eq_of_mem_set hr' with hr' | rfl
   ·rcases List.mem_or_eq_of_mem_set hr' with hr' | rfl
    ·exact hR.2.res r hr'
    simp only[aQ,hbj]
    rw[Wb (hv.trans rfl) hy]
    exact⟨⟨rs,k1,by rw[k1l];simp⟩,Kn hyok k2,k3⟩
   ·cases hb:(co cs k).b <;> simp[aQ]) (fun hN=>by
   refine⟨by simp[hlen],fun i o9 hi=>?_⟩
   rw[List.getElem?_set]at hi
   split at hi
   ·split at hi
    ·simp at hi
    cases hi
   by_cases hij:j=i
   ·subst hij
    rw[List.getElem?_set_self hlt]at hi
    injection hi with hi
    injection hi with hi
    subst hi
    rw[hcoj]
    refine⟨Ko (by simpa only[CR]using mG (fun _ _=>rfl) hN _ _ hor) (dI (fun _ _=>rfl) hN hsame _ _ hcl),fun h=>?_⟩
    rw[hbj]at h
    cases h
   rw[List.getElem?_set_ne hij]at hi
   have h1:=hR.obs.2 i o9 hi
   rw[pK hjl,if_neg (fun h=>hij h.symm)]
   exact⟨dI (fun _ _=>rfl) hN hsame _ _ h1.1,h1.2⟩) hsame
  exact⟨_,m.1⟩
theorem KR {j k p e z n t' z':Nat}{l l' l2:List AV}{trs:List Tr}(hne:Nat.beq j k=false) (hz:Nat.beq z 0=false) (ho:cR ob j=some ⟨t',z',l⟩) (hok:cR ob k=some ⟨e,z,l2⟩) (hp:l[p]? =some (.sl k 0 n)) (hl2:l2.take (n*z)=trs.map .t) (hn:trs.length=n*z) (hl:l.set p (.t (.s true e z n trs))=l'):Sub x g ob g ((ob.set j (some ⟨t',z',l'⟩)).set k none):=by
 have hz0:z≠0:=fun e=>by subst e;simp at hz
 have hkk:=dL hok
 refine aCX hne ho hok hp (fun{W N cs y} h=>by cases y <;> simp only[CR]at h;exact⟨_,rfl,h⟩) (fun{cs ts W u} hR hr=>?_) hl
 have hck:=hR.crl hkk
 simp only[AR]at hr
 obtain⟨_,hr⟩:=hr
 have hort:ORL W (x.fr W ob cs) trs ((co cs k).l.take (n*z)):=by
  have:=mY (n*z) hck
  dsimp only at this
  rw[hl2]at this
  exact Ee this
 cases hb:(co cs k).b with
 | none=>
  rw[hb]at hr
  obtain⟨rfl,_,rfl⟩:=hr
  refine⟨.w (.slice none 0 0),rfl,?_,by simp[VT.ok],fun b=>by simp[VT.fp]⟩
  simp only[OR]
  exact .inl ⟨trivial,trivial,List.eq_nil_of_length_eq_zero (by simpa using hn),trivial⟩
 | some b=>
  rw[hb]at hr
  obtain⟨o',c,rfl,h1,h2,h3,h4⟩:=hr
  obtain rfl:=h3 (.inr trivial)
  have hc:=h4 trivial
  subst hc
  obtain⟨⟨rs,k1,k1l⟩,k2,k3⟩:=hR.blk hkk hb
  dsimp only at k1l
  rw[hz,cond_false]at k1l
  refine⟨.s b (co cs k).c e z n ((co cs k).l.take (n*z)),rfl,?_,?_,fun b'=>?_⟩
  ·simp only[OR]
   exact⟨trivial,trivial,trivial,trivial,hort⟩
  ·simp only[VT.ok]
   refine⟨⟨((co cs k).l.drop (n*z)).map VT.val++rs,?_,?_⟩,h1,k3,by rw[Di hort,hn],Am _ _ k2⟩
   ·rw[<-List.append_assoc,qZ]
    exact k1
   rw[<-List.append_assoc,qZ,k1l]
  simp only[VT.fp,aQ,hb]
  exact((Ge (co cs k).l (n*z)).cons_cons b).count_le b'
end
end Go.Proofs.YtimiaildfkimfaaGreatDoor
