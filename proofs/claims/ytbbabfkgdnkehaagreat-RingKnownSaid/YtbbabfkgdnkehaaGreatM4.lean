/- Part 4 of a proof: Av18 to Av21. -/
import Derived.Test.YtbbabfkgdnkehaaGreatM3
import Derived.Test.YtbbabfkgdnkehaaGreatChecked
set_option maxRecDepth 100000
set_option linter.unusedVariables false
set_option linter.unusedSimpArgs false
namespace Go.Proofs.YtbbabfkgdnkehaaGreat
open Go Go.RowKit
section
variable {x:Cx}{g g':Nat→FV}{ob ob':List (Option Ob)}{cs cs':List Co}{ts ts':Array Value}{W W':World}{T:List (Nat×TI)}{Q:Post}{ops:Array Oper}{d:Nat}{op:Op}{ty:TypeId}{pos:String}{af:Array Edge}{gd:Option (Nat×Bool)}{late:Nat→Bool}{K fr:List Nat}{on:Bool}{fuel:Nat}{listed:Array Bool}
theorem rE {v:FV}:∀j,some d≠some j→bH g d v j=g j:=fun j hj=>by
 have hb:Nat.beq j d=false:=by
  cases hq:Nat.beq j d
  ·rfl
  exact absurd (by rw[Nat.eq_of_beq_eq_true hq]) hj
 simp[bH,hb]
theorem dn (i:Nat) (hi:ops[i]? =some ⟨some d,op,ty,pos,af,gd⟩) (hst:mX ops late listed i=true) (hw:bI ops x.n g gd=some false)
  (k:WD x ops Q late K fr true fuel (listed.setIfInBounds i true) (bH g d (.one (tv undef))) ob):WD x ops Q late K fr true (fuel+1) listed g ob:=by
 intro Kp W1 cs ts W hR hK1 hK2 hon
 have hk:=hon rfl
 simp only[mX,Bool.and_eq_true]at hst
 obtain⟨s1,s2,s3,s4⟩:=hst
 exact yS hi (Region.noSelect_spec s1) (fun c a w h=>h) (fun j oj hj hlj=>sL s4 j oj hj hlj) fuel listed _ W (Region.free_spec hi s2) (by simpa using s3) (.inr ⟨mI hw hR,rfl⟩) hk.same
  (k Kp W1 cs _ W (hR.put d (v:=.one (tv undef)) (jI (by simp[tv,AR,FR]))) hK1 hK2 fun _=>hk.put hR.1 (v:=.one (tv undef)) (jI (by simp[tv,AR,FR])))
theorem WD.split {t:Nat}{p:Prop} [Decidable p] (h:lk x.n g (.tmp t)=.one (tv (.bool (decide p)))) (ht:g t=.one (tv (.bool (decide p)))) (h1:p→WD x ops Q late K fr on fuel listed (bH g t (.one (tv (.bool true)))) ob) (h2:¬p→WD x ops Q late K fr on fuel listed (bH g t (.one (tv (.bool false)))) ob):WD x ops Q late K fr on fuel listed g ob:=by
 have key:∀b:Bool,decide p=b→bH g t (.one (tv (.bool b)))=g:=fun b hb=>by
  funext i
  unfold bH
  cases hq:Nat.beq i t
  ·rfl
  rw[Nat.eq_of_beq_eq_true hq,ht,hb]
  rfl
 by_cases hp:p
 ·rw[←key true (by simp[hp])]
  exact h1 hp
 rw[←key false (by simp[hp])]
 exact h2 hp
theorem WL.split {t:Nat}{rest:List Oper}{p:Prop} [Decidable p] (ht:g t=.one (tv (.bool (decide p)))) (h1:p→WL x ops rest (bH g t (.one (tv (.bool true)))) ob Q) (h2:¬p→WL x ops rest (bH g t (.one (tv (.bool false)))) ob Q):WL x ops rest g ob Q:=by
 have key:∀b:Bool,decide p=b→bH g t (.one (tv (.bool b)))=g:=fun b hb=>by
  funext i
  unfold bH
  cases hq:Nat.beq i t
  ·rfl
  rw[Nat.eq_of_beq_eq_true hq,ht,hb]
  rfl
 by_cases hp:p
 ·rw[←key true (by simp[hp])]
  exact h1 hp
 rw[←key false (by simp[hp])]
 exact h2 hp
def JM (K:List Nat) (ob:List (Option Ob)):Bool:=K.all fun k=>Nat.blt k ob.length
theorem Tj {o:Option Ob}{l:List (Option Ob)}(h:JM K ob=true) (k:Nat) (hk:k∈K):(ob++l)[k]? =ob[k]? :=by
 have:=List.all_eq_true.1 h k hk
 have hlt:k<ob.length:=by simpa[Nat.blt,Nat.lt_iff_add_one_le]using this
 exact List.getElem?_append_left hlt
def jA (ob ob':List (Option Ob)):List Nat→Prop
 | []=>True
 | k::K=>ob'[k]? =ob[k]? ∧jA ob ob' K
theorem gN:∀{K:List Nat},jA ob ob' K→∀k∈K,ob'[k]? =ob[k]?
 | [],_,k,hk=>by simp at hk
 | k0::K,h,k,hk=>by
  rcases List.mem_cons.1 hk with rfl | hk
  ·exact h.1
  exact gN h.2 k hk
theorem Qb {o:Oper}{R:(Nat→FV)→List (Option Ob)→Prop}{v:FV}(i:Nat) (hr:Region.ready .any ops listed=[i]) (hi:ops[i]? =some o) (hd:o.dst=some d) (hw:bI ops x.n g o.guard=some true) (h:OS x o g ob [] R)
  (hg:∀g' ob',R g' ob'→g'=bH g d v∧∀k∈K,ob'[k]? =ob[k]?) (k:∀g' ob',R g' ob'→WD x ops Q late K (d::fr) true fuel (listed.setIfInBounds i true) g' ob'):WD x ops Q late K fr true (fuel+1) listed g ob:=by
 refine Kn i hr hi hw h true (fun _=>⟨rfl,fun _ _ h=>by simp at h⟩) (fun _=>rfl) (fun _ g' ob' hR=>?_) fun g' ob' hR=>by rw[hd];exact k g' ob' hR
 obtain⟨h1,h2⟩:=hg g' ob' hR
 exact⟨by rw[hd,h1];exact rE,h2⟩
theorem TV {fresh:Bool}{f:FuncId}{args:List FV}{r v:FV}{aa:Array Operand}{ats:Array TypeId}(i:Nat) (hr:Region.ready .any ops listed=[i]) (hi:ops[i]? =some ⟨some d,.call ⟨.value (.func f),aa,ats⟩,ty,pos,af,gd⟩) (hw:bI ops x.n g gd=some true) (hS:aE fresh x.P f [] args (aT r)) (hf:CallOk x.P f) (ha:AL fresh x g ob aa.toList args) (hv:zS r=v)
  (k:WD x ops Q late K (d::fr) true fuel (listed.setIfInBounds i true) (bH g d v) ob):WD x ops Q late K fr true (fuel+1) listed g ob:=
 Qb (v:=v) i hr hi rfl hw (Iu hS hf ha) (by rintro _ _ ⟨r',rfl,rfl,rfl⟩;exact⟨by rw[hv],fun _ _=>rfl⟩) (by rintro _ _ ⟨r',rfl,rfl,rfl⟩;rw[hv];exact k)
theorem aAp {t key:Nat}(i:Nat) (hr:Region.ready .any ops listed=[i]) (hi:ops[i]? =some ⟨some d,.alloc t,ty,pos,af,gd⟩) (hw:bI ops x.n g gd=some true) (hT:cN x.P T) (h:zM T t key ob=some ob') (hke:jA ob ob' K)
  (k:WD x ops Q late K (d::fr) true fuel (listed.setIfInBounds i true) (bH g d (.one (.pt key 0))) ob'):WD x ops Q late K fr true (fuel+1) listed g ob:=
 Qb (v:=.one (.pt key 0)) i hr hi rfl hw (Xp hT h) (by rintro _ _ ⟨rfl,rfl⟩;exact⟨rfl,gN hke⟩) (by rintro _ _ ⟨rfl,rfl⟩;exact k)
theorem Gy {o:Oper}{R:(Nat→FV)→List (Option Ob)→Prop}{v:FV}(i:Nat) (hi:ops[i]? =some o) (hd:o.dst=some d) (hw:bI ops x.n g o.guard=some true) (h:OS x o g ob [] R)
  (hg:∀g' ob',R g' ob'→g'=bH g d v∧∀k∈K,ob'[k]? =ob[k]?) (k:∀g' ob',R g' ob'→WD x ops Q late K (d::fr) true fuel (listed.setIfInBounds i true) g' ob'):WO x ops Q late K fr true fuel listed i g ob:=by
 refine TQ i hi hw h true (fun _=>⟨rfl,fun _ _ h=>by simp at h⟩) (fun _=>rfl) (fun _ g' ob' hR=>?_) fun g' ob' hR=>by rw[hd];exact k g' ob' hR
 obtain⟨h1,h2⟩:=hg g' ob' hR
 exact⟨by rw[hd,h1];exact rE,h2⟩
theorem TW {fresh:Bool}{f:FuncId}{args:List FV}{r v:FV}{aa:Array Operand}{ats:Array TypeId}(i:Nat) (hi:ops[i]? =some ⟨some d,.call ⟨.value (.func f),aa,ats⟩,ty,pos,af,gd⟩) (hw:bI ops x.n g gd=some true) (hS:aE fresh x.P f [] args (aT r)) (hf:CallOk x.P f) (ha:AL fresh x g ob aa.toList args) (hv:zS r=v)
  (k:WD x ops Q late K (d::fr) true fuel (listed.setIfInBounds i true) (bH g d v) ob):WO x ops Q late K fr true fuel listed i g ob:=
 Gy (v:=v) i hi rfl hw (Iu hS hf ha) (by rintro _ _ ⟨r',rfl,rfl,rfl⟩;exact⟨by rw[hv],fun _ _=>rfl⟩) (by rintro _ _ ⟨r',rfl,rfl,rfl⟩;rw[hv];exact k)
theorem aAq {t key:Nat}(i:Nat) (hi:ops[i]? =some ⟨some d,.alloc t,ty,pos,af,gd⟩) (hw:bI ops x.n g gd=some true) (hT:cN x.P T) (h:zM T t key ob=some ob') (hke:jA ob ob' K)
  (k:WD x ops Q late K (d::fr) true fuel (listed.setIfInBounds i true) (bH g d (.one (.pt key 0))) ob'):WO x ops Q late K fr true fuel listed i g ob:=
 Gy (v:=.one (.pt key 0)) i hi rfl hw (Xp hT h) (by rintro _ _ ⟨rfl,rfl⟩;exact⟨rfl,gN hke⟩) (by rintro _ _ ⟨rfl,rfl⟩;exact k)
theorem ZQ {t key:Nat}{a:Operand}(i:Nat) (hr:Region.ready .any ops listed=[i]) (hi:ops[i]? =some ⟨some d,.box t a,ty,pos,af,gd⟩) (hw:bI ops x.n g gd=some true) (h:Pm t key (lk x.n g a) ob=some ob') (hke:jA ob ob' K)
  (k:WD x ops Q late K (d::fr) true fuel (listed.setIfInBounds i true) (bH g d (.one (.pt key 0))) ob'):WD x ops Q late K fr true (fuel+1) listed g ob:=
 Qb (v:=.one (.pt key 0)) i hr hi rfl hw (KJ h) (by rintro _ _ ⟨rfl,rfl⟩;exact⟨rfl,gN hke⟩) (by rintro _ _ ⟨rfl,rfl⟩;exact k)
theorem iG {t len key:Nat}{ps:Array (Nat×Operand)}(i:Nat) (hr:Region.ready .any ops listed=[i]) (hi:ops[i]? =some ⟨some d,.buildSlice t len ps,ty,pos,af,gd⟩) (hw:bI ops x.n g gd=some true) (hT:cN x.P T) (h:Iw T x.n g t len key ps.toList ob=some ob') (hke:jA ob ob' K)
  (k:WD x ops Q late K (d::fr) true fuel (listed.setIfInBounds i true) (bH g d (.one (.sl key 0 len))) ob'):WD x ops Q late K fr true (fuel+1) listed g ob:=
 Qb (v:=.one (.sl key 0 len)) i hr hi rfl hw (Xs hT h) (by rintro _ _ ⟨rfl,rfl⟩;exact⟨rfl,gN hke⟩) (by rintro _ _ ⟨rfl,rfl⟩;exact k)
theorem d_v {C:Prop}{v:FV}(i:Nat) (hr:Region.ready .any ops listed=[i]) (hi:ops[i]? =some ⟨some d,op,ty,pos,af,gd⟩) (hw:bI ops x.n g gd=some true) (hT:cN x.P T) (h:vX T x.n g op=some (C,v)) (hC:C)
  (k:WD x ops Q late K (d::fr) on fuel (listed.setIfInBounds i true) (bH g d v) ob) (hl:late i=false→on=true):WD x ops Q late K fr on (fuel+1) listed g ob:=by
 refine Kn i hr hi hw (TN hT h hC) on (fun h=>⟨h,fun _ _ h=>by simp at h⟩) hl (fun _ g' ob' hR=>?_) fun g' ob' hR=>?_
 ·obtain⟨rfl,rfl⟩:=hR
  exact⟨rE,fun _ _=>rfl⟩
 obtain⟨rfl,rfl⟩:=hR
 exact k
theorem aAr {t:Nat}{ti:TI}{a b:Operand}(i:Nat) (hr:Region.ready .any ops listed=[i]) (hi:ops[i]? =some ⟨none,.store t a b,ty,pos,af,gd⟩) (hw:bI ops x.n g gd=some true) (hT:cN x.P T) (hti:cP T t=some ti) (h:zN ti ob (lk x.n g b) (lk x.n g a)=some ob') (hl:late i=true)
  (k:WD x ops Q late K fr false fuel (listed.setIfInBounds i true) g ob'):WD x ops Q late K fr on (fuel+1) listed g ob:=by
 obtain⟨ky,hs,_⟩:=Xq (ty:=ty) (pos:=pos) (af:=af) (gd:=gd) hT hti h
 refine Kn i hr hi hw hs false (fun h=>by cases h) (fun h=>by rw[hl]at h;cases h) (fun h=>by cases h) fun g' ob' hR=>?_
 obtain⟨rfl,rfl⟩:=hR
 exact k
theorem XJ {t key o:Nat}{ti:TI}{a b:Operand}(i:Nat) (hr:Region.ready .any ops listed=[i]) (hi:ops[i]? =some ⟨none,.store t a b,ty,pos,af,gd⟩) (hw:bI ops x.n g gd=some true) (hT:cN x.P T) (hti:cP T t=some ti) (h:zN ti ob (lk x.n g b) (lk x.n g a)=some ob') (hlk:lk x.n g a=.one (.pt key o)) (hK:K.contains key=false) (hke:jA ob ob' K)
  (k:WD x ops Q late K fr true fuel (listed.setIfInBounds i true) g ob'):WD x ops Q late K fr true (fuel+1) listed g ob:=by
 obtain⟨ky,hs,o2,hlk2⟩:=Xq (ty:=ty) (pos:=pos) (af:=af) (gd:=gd) hT hti h
 rw[hlk]at hlk2
 injection hlk2 with e
 injection e with e1 e2
 subst e1
 refine Kn i hr hi hw hs true (fun _=>⟨rfl,fun k hk hm=>?_⟩) (fun _=>rfl) (fun _ g' ob' hR=>?_) fun g' ob' hR=>?_
 ·rw[List.mem_singleton]at hm
  subst hm
  have:K.contains k=true:=by simpa using hk
  rw[hK]at this
  cases this
 ·obtain⟨rfl,rfl⟩:=hR
  exact⟨fun _ _=>rfl,gN hke⟩
 obtain⟨rfl,rfl⟩:=hR
 exact k
theorem WL.splitb {t:Nat}{rest:List Oper}{b:Bool}(ht:g t=.one (tv (.bool b))) (h1:b=true→WL x ops rest (bH g t (.one (tv (.bool true)))) ob Q) (h2:b=false→WL x ops rest (bH g t (.one (tv (.bool false)))) ob Q):WL x ops rest g ob Q:=by
 have key:∀b':Bool,b=b'→bH g t (.one (tv (.bool b')))=g:=fun b' hb=>by
  funext i
  unfold bH
  cases hq:Nat.beq i t
  ·rfl
  rw[Nat.eq_of_beq_eq_true hq,ht,hb]
  rfl
 cases hb:b
 ·rw[←key false hb]
  exact h2 hb
 rw[←key true hb]
 exact h1 hb
theorem WD.splitb {t:Nat}{b:Bool}(ht:g t=.one (tv (.bool b))) (h1:b=true→WD x ops Q late K fr on fuel listed (bH g t (.one (tv (.bool true)))) ob) (h2:b=false→WD x ops Q late K fr on fuel listed (bH g t (.one (tv (.bool false)))) ob):WD x ops Q late K fr on fuel listed g ob:=by
 have key:∀b':Bool,b=b'→bH g t (.one (tv (.bool b')))=g:=fun b' hb=>by
  funext i
  unfold bH
  cases hq:Nat.beq i t
  ·rfl
  rw[Nat.eq_of_beq_eq_true hq,ht,hb]
  rfl
 cases hb:b
 ·rw[←key false hb]
  exact h2 hb
 rw[←key true hb]
 exact h1 hb
theorem WL.cast {t:Nat}{rest:List Oper}{u u':Value}(ht:g t=.one (tv u)) (e:u=u') (k:WL x ops rest (bH g t (.one (tv u'))) ob Q):WL x ops rest g ob Q:=by
 have:bH g t (.one (tv u'))=g:=by
  funext i
  unfold bH
  cases hq:Nat.beq i t
  ·rfl
  rw[Nat.eq_of_beq_eq_true hq,ht,e]
  rfl
 rwa[this]at k
theorem WD.cast {t:Nat}{u u':Value}(ht:g t=.one (tv u)) (e:u=u') (k:WD x ops Q late K fr on fuel listed (bH g t (.one (tv u'))) ob):WD x ops Q late K fr on fuel listed g ob:=by
 have:bH g t (.one (tv u'))=g:=by
  funext i
  unfold bH
  cases hq:Nat.beq i t
  ·rfl
  rw[Nat.eq_of_beq_eq_true hq,ht,e]
  rfl
 rwa[this]at k
theorem dO {k:IntKind}{a b:Int}(h:a=b):Value.int k a=.int k b:=by rw[h]
theorem Sub.trans {g2:Nat→FV}{ob2:List (Option Ob)}(h:Sub x g ob g' ob') (h':Sub x g' ob' g2 ob2):Sub x g ob g2 ob2:=fun ts W hR=>h' ts W (h ts W hR)
theorem nr {i:Nat}(key e z:Nat) (hz:Nat.beq z 0=false) (hk:eN ob key=true) (hi:Nat.blt i x.n=true) (hg:g i=.one (tv (.slice none 0 0))):Sub x g ob (bH g i (.one (.sl key 0 0))) (ob++[some ⟨e,z,[]⟩]):=by
 rintro ts W ⟨cs,hR⟩
 have hk:=Nat.eq_of_beq_eq_true hk
 have hi:i<x.n:=by simpa[Nat.blt,Nat.lt_iff_add_one_le]using hi
 have hz0:z≠0:=fun e=>by subst e;simp at hz
 have m1:=hR.push (Below.refl _ _) ⟨e,z,[]⟩ ⟨none,0,[]⟩ (by simp[aR]) (by simp[aR]) (by simp[aR]) (by simp[bU]) (fun _=>⟨rfl,hz0⟩)
 obtain⟨u,h1,h2⟩:=hR.fv hi
 rw[hg]at h2
 have h2:=bK h2
 subst h2
 have m2:=m1.put i (v:=.one (.sl key 0 0)) (u:=.slice none 0 0) (by
  refine jI ?_
  simp only[AR]
  rw[←hk,hR.len,iV]
  exact⟨by simp,by trivial,by trivial,by trivial⟩)
 have e:ts.setIfInBounds i (.slice none 0 0)=ts:=by
  apply Array.ext_getElem?
  intro j
  rw[Array.getElem?_setIfInBounds]
  split
  ·rename_i e
   subst e
   split
   ·exact h1.symm
   rename_i h9
   rw[hR.1]at h9
   exact absurd hi h9
  rfl
 rw[e]at m2
 exact⟨_,m2⟩
theorem KM {t e z by_ n m j:Nat}{zz:Value}{ti:Bool}{ts0:Nat}{z0:List Value}{a b:Operand}{av bv:AV}{l news:List AV}(i:Nat) (hi:ops[i]? =some ⟨some d,.call ⟨.builtin .append, #[a,b], #[t,t]⟩,ty,pos,af,gd⟩) (hT:cN x.P T) (ht:cP T t=some ⟨ti,ts0,z0,.sl e z by_ zz⟩) (ha:lk x.n g a=.one av) (hb:lk x.n g b=.one bv)
  (hd:DstA ob e z av n ob' l) (hs:SrcA ob z bv m news) (hrd:gU news=true) (hlo:fJ news=true) (hbytes:(n+m)*by_≤140737488355328) (h63:n+m≤140737488355328) (hK:K=[]) (hj:eN ob j=true) (hr:Region.ready .any ops listed=[i]) (hw:bI ops x.n g gd=some true)
  (k:WD x ops Q late K (d::fr) true fuel (listed.setIfInBounds i true) (bH g d (.one (.sl j 0 (n+m)))) (ob'++[some ⟨e,z,l++news⟩])):WD x ops Q late K fr true (fuel+1) listed g ob:=by
 subst hK
 obtain⟨Wr,h,_⟩:=Py (d:=d) (ty:=ty) (pos:=pos) (af:=af) (gd:=gd) hT ht ha hb hd hs hrd hlo hj hbytes h63
 refine Kn i hr hi hw h true (fun _=>⟨rfl,fun _ h=>by simp at h⟩) (fun _=>rfl) (fun _ g' ob' hR=>?_) fun g' ob' hR=>?_
 ·obtain⟨rfl,rfl⟩:=hR
  exact⟨rE,fun _ h=>by simp at h⟩
 obtain⟨rfl,rfl⟩:=hR
 exact k
def YX (K:List Nat):AV→Bool
 | .sl k _ _=>K.contains k
 | _=>false
theorem kC {t e z by_ n m j:Nat}{zz:Value}{ti:Bool}{ts0:Nat}{z0:List Value}{a b:Operand}{av bv:AV}{l news:List AV}(i:Nat) (hi:ops[i]? =some ⟨some d,.call ⟨.builtin .append, #[a,b], #[t,t]⟩,ty,pos,af,gd⟩) (hT:cN x.P T) (ht:cP T t=some ⟨ti,ts0,z0,.sl e z by_ zz⟩) (ha:lk x.n g a=.one av) (hb:lk x.n g b=.one bv)
  (hd:DstA ob e z av n ob' l) (hs:SrcA ob z bv m news) (hrd:gU news=true) (hlo:fJ news=true) (hbytes:(n+m)*by_≤140737488355328) (h63:n+m≤140737488355328) (hK:YX K av=false) (hke:jA ob (ob'++[some ⟨e,z,l++news⟩]) K) (hj:eN ob j=true) (hr:Region.ready .any ops listed=[i]) (hw:bI ops x.n g gd=some true)
  (k:WD x ops Q late K (d::fr) true fuel (listed.setIfInBounds i true) (bH g d (.one (.sl j 0 (n+m)))) (ob'++[some ⟨e,z,l++news⟩])):WD x ops Q late K fr true (fuel+1) listed g ob:=by
 obtain⟨Wr,h,h9⟩:=Py (d:=d) (ty:=ty) (pos:=pos) (af:=af) (gd:=gd) hT ht ha hb hd hs hrd hlo hj hbytes h63
 refine Kn i hr hi hw h true (fun _=>⟨rfl,fun k hk hm=>?_⟩) (fun _=>rfl) (fun _ g' ob' hR=>?_) fun g' ob' hR=>?_
 ·have h8:=h9 k hm
  subst h8
  have:K.contains k=true:=by simpa using hk
  simp[YX,hk]at hK
 ·obtain⟨rfl,rfl⟩:=hR
  exact⟨rE,gN hke⟩
 obtain⟨rfl,rfl⟩:=hR
 exact k
end
def xV (k:Nat):AV→Option (AV×List Ob)
 | .t (.s true t z n l)=>match Nat.beq z 0 with
  | false=>some (.sl k 0 n,[⟨t,z,l.map .t⟩])
  | true=>none
 | .t (.p true t l)=>some (.pt k 0,[⟨t,0,l.map .t⟩])
 | .t (.s false t z n l)=>some (.t (.s false t z n l),[])
 | .t (.p false t l)=>some (.t (.p false t l),[])
 | .t (.v v)=>some (.t (.v v),[])
 | .t (.f g l0 l)=>some (.t (.f g l0 l),[])
 | _=>none
def rI (k:Nat):List AV→Option (List AV×List Ob)
 | []=>some ([],[])
 | a::l=>match xV k a with
  | some (a',[])=>match rI k l with
   | some (l',os)=>some (a'::l',os)
   | none=>none
  | some (a',o::_)=>match rI (k+1) l with
   | some (l',os)=>some (a'::l',o::os)
   | none=>none
  | none=>none
def kK:VT→Co
 | .w _=>⟨none,0,[]⟩
 | .s b c _ _ _ l=>⟨some b,c,l⟩
 | .p b _ l=>⟨some b,0,l⟩
section
variable {W:World}{N:Nat→Prop}
theorem Br {k:Nat}{a a':AV}{os:List Ob}{y:VT}(hc:CR W N [] a y) (hok:y.ok W) (h:xV k a=some (a',os)):
  (os=[]∧y.fp=[]∧∀(N':Nat→Prop) (cs:List Co),(∀b,N b→N' b)→AR W N' cs a' y.val)∨
  (∃o,os=[o]∧(aR (some o) (kK y)).S=y.fp∧(aR (some o) (kK y)).φ W∧(∀(N':Nat→Prop) (cs:List Co),(∀b,N b→N' b)→k<cs.length→co cs k=kK y→AR W N' cs a' y.val∧bU W N' cs o.l (kK y).l)∧((kK y).b=none→o.l=[]∧o.z≠0)):=by
 unfold xV at h
 split at h
 ·rename_i t z n l
  split at h
  ·rename_i hz
   injection h with h
   injection h with h1 h2
   subst h1 h2
   refine .inr ⟨_,rfl,?_⟩
   have hz0:z≠0:=fun e=>by subst e;simp at hz
   simp only[CR]at hc
   cases y with
   | w u=>
    simp only[OR]at hc
    rcases hc with⟨_,rfl,rfl,rfl⟩ | ⟨hc,_⟩
    ·refine⟨rfl,by simp[aR,kK],fun N' cs hN hk hco=>⟨?_,by simp[bU,kK]⟩,fun _=>⟨rfl,hz0⟩⟩
     simp only[AR,hco,kK,VT.val]
     exact⟨hk,by trivial,by trivial,by trivial⟩
    cases hc
   | s b c t' z' n' l'=>
    simp only[OR]at hc
    obtain⟨_,rfl,rfl,rfl,hl⟩:=hc
    simp only[VT.ok]at hok
    obtain⟨k1,k2,k3,k4,k5⟩:=hok
    refine⟨rfl,?_,fun N' cs hN hk hco=>⟨?_,Ir (ORL_keep (fun _ _=>rfl) hN _ _ hl)⟩,fun h=>by cases h⟩
    ·simp only[aR,kK]
     rw[hz,cond_false]
     exact⟨k1,k5,k3⟩
    simp only[AR,hco,kK,VT.val]
    exact⟨hk,0,c,rfl,k2,by unfold maxLen at k3;omega,fun _=>rfl,fun _=>rfl⟩
   | p b t' l'=>simp only[OR]at hc
  cases h
 ·rename_i t l
  injection h with h
  injection h with h1 h2
  subst h1 h2
  refine .inr ⟨_,rfl,?_⟩
  simp only[CR]at hc
  cases y with
  | w u=>
   simp only[OR]at hc
   cases hc.1
  | s b c t' z' n' l'=>simp only[OR]at hc
  | p b t' l'=>
   simp only[OR]at hc
   obtain⟨_,rfl,hl⟩:=hc
   simp only[VT.ok]at hok
   refine⟨rfl,?_,fun N' cs hN hk hco=>⟨?_,Ir (ORL_keep (fun _ _=>rfl) hN _ _ hl)⟩,fun h=>by cases h⟩
   ·simp only[aR,kK]
    exact⟨hok.1,hok.2,Nat.zero_le _⟩
   simp only[AR,hco,kK,VT.val]
   exact⟨b,rfl,rfl⟩
 ·injection h with h
  injection h with h1 h2
  subst h1 h2
  have hr:=Bo hc rfl
  refine .inl ⟨rfl,?_,fun N' cs hN=>jD (fun _ _=>rfl) hN ⟨Nat.zero_le _,fun k hk=>by simp at hk⟩ _ _ hr⟩
  simp only[CR]at hc
  cases y with
  | w u=>rfl
  | s=>simp only[OR]at hc;cases hc.1
  | p=>simp only[OR]at hc
 ·injection h with h
  injection h with h1 h2
  subst h1 h2
  have hr:=Bo hc rfl
  refine .inl ⟨rfl,?_,fun N' cs hN=>jD (fun _ _=>rfl) hN ⟨Nat.zero_le _,fun k hk=>by simp at hk⟩ _ _ hr⟩
  simp only[CR]at hc
  cases y with
  | w u=>rfl
  | s=>simp only[OR]at hc
  | p=>simp only[OR]at hc;cases hc.1
 ·injection h with h
  injection h with h1 h2
  subst h1 h2
  have hr:=Bo hc rfl
  refine .inl ⟨rfl,?_,fun N' cs hN=>jD (fun _ _=>rfl) hN ⟨Nat.zero_le _,fun k hk=>by simp at hk⟩ _ _ hr⟩
  simp only[CR,OR]at hc
  subst hc
  rfl
 ·injection h with h
  injection h with h1 h2
  subst h1 h2
  have hr:=Bo hc rfl
  refine .inl ⟨rfl,?_,fun N' cs hN=>jD (fun _ _=>rfl) hN ⟨Nat.zero_le _,fun k hk=>by simp at hk⟩ _ _ hr⟩
  simp only[CR]at hc
  cases y with
  | w u=>rfl
  | s=>simp only[OR]at hc
  | p=>simp only[OR]at hc
 cases h
theorem Bt:∀{l l':List AV}{k:Nat}{os:List Ob}{ys:List VT},bU W N [] l ys→VT.okL W ys→rI k l=some (l',os)→∃cs2:List Co,cs2.length=os.length∧(aQ (os.map some) cs2).flatMap Res.S=VT.fpL ys∧(∀r∈aQ (os.map some) cs2,r.φ W)∧
  ∀(N':Nat→Prop) (cs:List Co),(∀b,N b→N' b)→k+os.length≤cs.length→(∀i,i<os.length→co cs (k+i)=co cs2 i)→ARL W N' cs l' (ys.map VT.val)∧∀(i:Nat) (o:Ob),os[i]? =some o→bU W N' cs o.l (co cs2 i).l∧((co cs2 i).b=none→o.l=[]∧o.z≠0)
 | [],l',k,os,ys,hc,hok,h=>by
  simp only[bU]at hc
  subst hc
  simp[rI]at h
  obtain⟨rfl,rfl⟩:=h
  exact⟨[],rfl,rfl,by simp[aQ],fun N' cs hN hk hco=>⟨by simp[ARL],fun i o ho=>by simp at ho⟩⟩
 | a::l,l',k,os,[],hc,hok,h=>by simp only[bU]at hc
 | a::l,l',k,os,y::ys,hc,hok,h=>by
  simp only[bU]at hc
  simp only[VT.okL]at hok
  unfold rI at h
  split at h
  ·rename_i a' ha
   split at h
   ·rename_i l2 os2 hl
    injection h with h
    injection h with h1 h2
    subst h1 h2
    obtain⟨cs2,e1,e2,e3,e4⟩:=Bt hc.2 hok.2 hl
    rcases Br hc.1 hok.1 ha with⟨_,f1,f2⟩ | ⟨o,f1,_⟩
    ·refine⟨cs2,e1,by rw[e2];simp[VT.fpL,f1],e3,fun N' cs hN hk hco=>?_⟩
     obtain⟨g1,g2⟩:=e4 N' cs hN hk hco
     simp only[List.map_cons,ARL]
     exact⟨⟨f2 N' cs hN,g1⟩,g2⟩
    cases f1
   cases h
  ·rename_i a' o os0 ha
   split at h
   ·rename_i l2 os2 hl
    injection h with h
    injection h with h1 h2
    subst h1 h2
    obtain⟨cs2,e1,e2,e3,e4⟩:=Bt hc.2 hok.2 hl
    rcases Br hc.1 hok.1 ha with⟨f1,_⟩ | ⟨o',f1,f2,f3,f4,f5⟩
    ·cases f1
    injection f1 with f1 _
    subst f1
    refine⟨kK y::cs2,by simp[e1],?_,?_,fun N' cs hN hk hco=>?_⟩
    ·unfold aQ at e2⊢
     simp only[List.map_cons,List.zipWith_cons_cons,List.flatMap_cons,VT.fpL,f2,e2]
    ·unfold aQ at e3⊢
     simp only[List.map_cons,List.zipWith_cons_cons]
     intro r hr
     rcases List.mem_cons.1 hr with rfl | hr
     ·exact f3
     exact e3 r hr
    simp only[List.length_cons]at hk hco
    have h0:=hco 0 (by omega)
    obtain⟨g1,g2⟩:=f4 N' cs hN (by omega) h0
    obtain⟨g3,g4⟩:=e4 N' cs hN (by omega) (fun i hi=>by
     have:=hco (i+1) (by omega)
     rw[show k+(i+1)=k+1+i by omega]at this
     rw[this]
     simp[co])
    simp only[List.map_cons,ARL]
    refine⟨⟨g1,g3⟩,fun i o ho=>?_⟩
    cases i with
    | zero=>
     simp at ho
     subst ho
     exact⟨g2,f5⟩
    | succ i=>
     have:=g4 i o (by simpa using ho)
     simpa[co]using this
   cases h
  cases h
end
def zT (k:Nat):FV→Option (FV×List Ob)
 | .one a=>match xV k a with
  | some (a',os)=>some (.one a',os)
  | none=>none
 | .agg l=>match rI k l with
  | some (l',os)=>some (.agg l',os)
  | none=>none
 | _=>none
def Ea (k:Nat):List FV→Option (List FV×List Ob)
 | []=>some ([],[])
 | a::l=>match zT k a with
  | some (a',os)=>match Ea (k+os.length) l with
   | some (l',os')=>some (a'::l',os++os')
   | none=>none
  | none=>none
def kB (k:Nat):FV→Option (FV×List Ob)
 | .tup l=>match Ea k l with
  | some (l',os)=>some (.tup l',os)
  | none=>none
 | v=>zT k v
section
variable {W:World}{N:Nat→Prop}
def Bnd (W:World) (N:Nat→Prop) (k:Nat) (os:List Ob) (ys:List VT) (A:(Nat→Prop)→List Co→Prop):Prop:=∃cs2:List Co,cs2.length=os.length∧(aQ (os.map some) cs2).flatMap Res.S=VT.fpL ys∧(∀r∈aQ (os.map some) cs2,r.φ W)∧
  ∀(N':Nat→Prop) (cs:List Co),(∀b,N b→N' b)→k+os.length≤cs.length→(∀i,i<os.length→co cs (k+i)=co cs2 i)→A N' cs∧∀(i:Nat) (o:Ob),os[i]? =some o→bU W N' cs o.l (co cs2 i).l∧((co cs2 i).b=none→o.l=[]∧o.z≠0)
theorem Ix {k:Nat}{r v:FV}{os:List Ob}{u:Value}{ys:List VT}(hr:yK W N [] r u ys) (hok:VT.okL W ys) (h:zT k r=some (v,os)):Bnd W N k os ys (fun N' cs=>cD W N' cs v u):=by
 cases r with
 | any=>exact hr.elim
 | tup l=>exact hr.elim
 | one a=>
  obtain⟨z,rfl,rfl,hc⟩:=hr
  unfold zT at h
  dsimp only at h
  split at h
  ·rename_i a' os' ha
   injection h with h
   injection h with h1 h2
   subst h1 h2
   have hl:rI k [a]=some ([a'],os')∨∃o r,os'=o::r:=by
    cases os' with
    | nil=>left;simp[rI,ha]
    | cons o r=>exact .inr ⟨o,r,rfl⟩
   have hl2:rI k [a]=some ([a'],os'):=by
    rcases hl with hl | ⟨o,r,rfl⟩
    ·exact hl
    have hr':r=[]:=by
     rcases Br hc (by simpa[VT.okL]using hok) ha with⟨f1,_⟩ | ⟨o',f1,_⟩
     ·cases f1
     injection f1
    subst hr'
    simp[rI,ha]
   obtain⟨cs2,e1,e2,e3,e4⟩:=Bt (l:=[a]) (ys:=[z]) (by simp only[bU];exact⟨hc,trivial⟩) hok hl2
   refine⟨cs2,e1,e2,e3,fun N' cs hN hk hco=>?_⟩
   obtain⟨g1,g2⟩:=e4 N' cs hN hk hco
   simp only[List.map_cons,ARL]at g1
   exact⟨g1.1,g2⟩
  cases h
 | agg l=>
  obtain⟨rfl,hc⟩:=hr
  unfold zT at h
  dsimp only at h
  split at h
  ·rename_i l' os' hl
   injection h with h
   injection h with h1 h2
   subst h1 h2
   obtain⟨cs2,e1,e2,e3,e4⟩:=Bt hc hok hl
   refine⟨cs2,e1,e2,e3,fun N' cs hN hk hco=>?_⟩
   obtain⟨g1,g2⟩:=e4 N' cs hN hk hco
   exact⟨⟨_,rfl,g1⟩,g2⟩
  cases h
theorem Bnd.app {k:Nat}{os os':List Ob}{ys ys':List VT}{A B:(Nat→Prop)→List Co→Prop}(h:Bnd W N k os ys A) (h':Bnd W N (k+os.length) os' ys' B):Bnd W N k (os++os') (ys++ys') (fun N cs=>A N cs∧B N cs):=by
 obtain⟨c1,a1,a2,a3,a4⟩:=h
 obtain⟨c2,b1,b2,b3,b4⟩:=h'
 have hr:aQ ((os++os').map some) (c1++c2)=aQ (os.map some) c1++aQ (os'.map some) c2:=by
  unfold aQ
  rw[List.map_append,List.zipWith_append (by simp[a1])]
 have hc1:∀i,i<os.length→co (c1++c2) i=co c1 i:=fun i hi=>by simp[co,List.getElem?_append_left (show i<c1.length by omega)]
 have hc2:∀i,co (c1++c2) (os.length+i)=co c2 i:=fun i=>by
  unfold co
  rw[List.getElem?_append_right (by omega),show os.length+i-c1.length=i by omega]
 refine⟨c1++c2,by simp[a1,b1],by rw[hr,List.flatMap_append,a2,b2,mQ],fun r hm=>?_,fun N' cs hN hk hco=>?_⟩
 ·rw[hr]at hm
  rcases List.mem_append.1 hm with hm | hm
  ·exact a3 r hm
  exact b3 r hm
 simp only[fE]at hk hco
 obtain⟨g1,g2⟩:=a4 N' cs hN (by omega) (fun i hi=>by rw[hco i (by omega),hc1 i hi])
 obtain⟨g3,g4⟩:=b4 N' cs hN (by omega) (fun i hi=>by
  have:=hco (os.length+i) (by omega)
  rw[hc2,show k+(os.length+i)=k+os.length+i by omega]at this
  exact this)
 refine⟨⟨g1,g3⟩,fun i o ho=>?_⟩
 rcases Nat.lt_or_ge i os.length with hi | hi
 ·rw[List.getElem?_append_left hi]at ho
  rw[hc1 i hi]
  exact g2 i o ho
 rw[List.getElem?_append_right hi]at ho
 have:=g4 (i-os.length) o ho
 rw[←hc2,show os.length+(i-os.length)=i by omega]at this
 exact this
theorem Vb:∀{l l':List FV}{k:Nat}{os:List Ob}{us:List Value}{ys:List VT},zP W N [] l us ys→VT.okL W ys→Ea k l=some (l',os)→Bnd W N k os ys (fun N' cs=>eG W N' cs l' us)
 | [],l',k,os,us,ys,hr,hok,h=>by
  simp[Ea]at h
  obtain⟨rfl,rfl⟩:=h
  obtain⟨rfl,rfl⟩:=hr
  exact⟨[],rfl,rfl,by simp[aQ],fun N' cs hN hk hco=>⟨by simp[eG],fun i o ho=>by simp at ho⟩⟩
 | a::l,l',k,os,us,ys,⟨v,vs,y1,y2,h1,h2,h3,h4⟩,hok,h=>by
  subst h1 h2
  rw[qG]at hok
  unfold Ea at h
  split at h
  ·rename_i a' os1 ha
   split at h
   ·rename_i l2 os2 hl
    injection h with h
    injection h with e1 e2
    subst e1 e2
    have q1:=Ix h3 hok.1 ha
    have q2:=Vb h4 hok.2 hl
    obtain⟨cs2,e1,e2,e3,e4⟩:=q1.app q2
    exact⟨cs2,e1,e2,e3,fun N' cs hN hk hco=>by
     obtain⟨g1,g2⟩:=e4 N' cs hN hk hco
     exact⟨by simp only[eG];exact g1,g2⟩⟩
   cases h
  cases h
theorem yW {k:Nat}{r v:FV}{os:List Ob}{u:Value}{ys:List VT}(hr:RO W N [] r u ys) (hok:VT.okL W ys) (h:kB k r=some (v,os)):Bnd W N k os ys (fun N' cs=>bO W N' cs v u):=by
 cases r with
 | tup l=>
  obtain⟨us,rfl,h2⟩:=hr
  unfold kB at h
  dsimp only at h
  split at h
  ·rename_i l' os' hl
   injection h with h
   injection h with h1 h2
   subst h1 h2
   obtain⟨cs2,e1,e2,e3,e4⟩:=Vb h2 hok hl
   exact⟨cs2,e1,e2,e3,fun N' cs hN hk hco=>⟨⟨us,rfl,(e4 N' cs hN hk hco).1⟩,(e4 N' cs hN hk hco).2⟩⟩
  cases h
 | any=>exact hr.elim
 | one a=>
  obtain⟨cs2,e1,e2,e3,e4⟩:=Ix (r:=.one a) hr hok h
  exact⟨cs2,e1,e2,e3,fun N' cs hN hk hco=>⟨vY (e4 N' cs hN hk hco).1,(e4 N' cs hN hk hco).2⟩⟩
 | agg l=>
  obtain⟨cs2,e1,e2,e3,e4⟩:=Ix (r:=.agg l) hr hok h
  exact⟨cs2,e1,e2,e3,fun N' cs hN hk hco=>⟨vY (e4 N' cs hN hk hco).1,(e4 N' cs hN hk hco).2⟩⟩
end
section
variable {x:Cx}{g g':Nat→FV}{ob ob':List (Option Ob)}{cs cs':List Co}{ts ts':Array Value}{W W':World}{T:List (Nat×TI)}{Q:Post}{ops:Array Oper}{rest:List Oper}{d:Nat}{ty:TypeId}{pos:String}{af:Array Edge}{gd:Option (Nat×Bool)}
theorem Dh {fresh:Bool}{f:FuncId}{args:List FV}{R:List Lt→FV→Prop}{aa:Array Operand}{ats:Array TypeId}{key:Nat}(hS:aE fresh x.P f [] args R) (hf:CallOk x.P f) (ha:AL fresh x g ob aa.toList args) (hk:eN ob key=true) (hb:∀r,R [] r→(kB key r).isSome=true):
  OS x ⟨some d,.call ⟨.value (.func f),aa,ats⟩,ty,pos,af,gd⟩ g ob [] (fun g' ob'=>∃r v os,R [] r∧kB key r=some (v,os)∧g'=bH g d v∧ob'=ob++os.map some):=by
 intro cs ts W hR K Q kk
 have hC:=Ku hS ha hR
 obtain⟨fn,c,h1,h2,h3⟩:=hf
 have hrun:(execOp (Act.eval ⟨ts,[]⟩) ⟨some d,.call ⟨.value (.func f),aa,ats⟩,ty,pos,af,gd⟩).run x.P W=.ok (.enter f (aa.toList.map (Act.eval ⟨ts,[]⟩)).toArray) W:=by
  have e0:Act.eval ⟨ts,[]⟩ (.func f)=.func (.func f) #[] #[]:=rfl
  have e1:aa.map (Act.eval ⟨ts,[]⟩)=(aa.toList.map (Act.eval ⟨ts,[]⟩)).toArray:=by apply Array.ext';simp only[Array.toList_map]
  simp[execOp,resolve,e0,Deferred.ofValue,invoke,e1,callFunc,h1,h3]
  intro hn
  rw[hn]at h2
  simp at h2
 unfold Oper.wp
 rw[hrun]
 refine hC.mono fun e W' hE=>?_
 obtain⟨u,r,ys,rfl,hr,hbel,hok,hnd,hfp,hro⟩:=hE
 obtain⟨⟨v,os⟩,hbn⟩:=Option.isSome_iff_exists.1 (hb r hr)
 obtain⟨cs2,e1,e2,e3,e4⟩:=yW hro hok hbn
 have hk:=Nat.eq_of_beq_eq_true hk
 have hlen:=hR.len
 have hrs:aQ (ob++os.map some) (cs++cs2)=aQ ob cs++aQ (os.map some) cs2:=by
  unfold aQ
  rw[List.zipWith_append hlen]
 have hext:=hR.2.ext hbel
 have hnew:∀b∈(aQ (os.map some) cs2).flatMap Res.S,W.heap.size≤b∧b<W'.heap.size:=fun b hb=>hfp b (by rw[←e2];exact hb)
 have hL:Loc x.M x.w W' (aQ (ob++os.map some) (cs++cs2)) []:=by
  rw[hrs]
  refine⟨hext.chg,fun q hq=>?_,fun b hb=>?_,?_,fun _ h=>by cases h⟩
  ·rcases List.mem_append.1 hq with hq | hq
   ·exact hext.res q hq
   exact e3 q hq
  ·rw[List.flatMap_append,List.mem_append]at hb
   rcases hb with hb | hb
   ·exact hext.blk b hb
   exact⟨.inr (Nat.le_trans hR.2.chg.size (hnew b hb).1),(hnew b hb).2⟩
  rw[List.flatMap_append,List.nodup_append]
  refine⟨hext.nd,by rw[e2];exact hnd,fun a ha b hb e=>?_⟩
  subst e
  have:=(hR.2.blk a ha).2
  have:=(hnew a hb).1
  omega
 have hown:∀b∈eK (ob++os.map some) (cs++cs2),b∈eK ob cs∨W.heap.size≤b:=fun b hb=>by
  unfold eK at hb
  rw[hrs,List.flatMap_append,List.mem_append]at hb
  rcases hb with hb | hb
  ·exact .inl hb
  exact .inr (hnew b hb).1
 have hsame:Same cs (cs++cs2):=⟨by simp,fun k hk=>by simp[co,List.getElem?_append_left hk]⟩
 have hcoA:∀k,k<cs.length→co (cs++cs2) k=co cs k:=fun k hk=>by simp[co,List.getElem?_append_left hk]
 have hcoB:∀i,co (cs++cs2) (key+i)=co cs2 i:=fun i=>by
  unfold co
  rw[List.getElem?_append_right (by omega),show key+i-cs.length=i by omega]
 have hN:∀b,x.fr W ob cs b→x.fr W' (ob++os.map some) (cs++cs2) b:=fun b h=>rV h hbel.size hown
 have hkeep:∀b,x.fr W ob cs b→W'.heap[b]? =W.heap[b]? :=fun b h=>hbel.block b h.1.1
 have hN2:∀b,(fresh=false∧b∉VT.fpL ys∧b<W'.heap.size∧(x.fr W ob cs b∨W.heap.size≤b))→x.fr W' (ob++os.map some) (cs++cs2) b:=fun b hb=>by
  obtain⟨_,h5,h6,h7⟩:=hb
  rcases h7 with h7 | h7
  ·exact hN b h7
  refine⟨⟨h6,fun hm=>?_⟩,.inr (.inr (Nat.le_trans hR.2.chg.size h7))⟩
  rw[hrs,List.flatMap_append,List.mem_append]at hm
  rcases hm with hm | hm
  ·have:=(hR.2.blk b hm).2
   omega
  exact h5 (by rw[←e2];exact hm)
 obtain⟨g1,g2⟩:=e4 _ (cs++cs2) hN2 (by simp[e1];omega) (fun i _=>hcoB i)
 have hR':RelC x g (ob++os.map some) (cs++cs2) ts W':=by
  refine .of hR.1 hL ⟨by simp[hlen,e1],fun k o hk'=>?_⟩ (fun i hi=>?_) (hR.3.trans hsame)
  ·rcases Nat.lt_or_ge k ob.length with hlt | hge
   ·rw[List.getElem?_append_left hlt]at hk'
    have h5:=hR.obs.2 k o hk'
    rw[hcoA k (by omega)]
    exact⟨dN hkeep hN hsame _ _ h5.1,h5.2⟩
   rw[List.getElem?_append_right hge]at hk'
   have ho:os[k-ob.length]? =some o:=by
    rw[List.getElem?_map]at hk'
    cases hq:os[k-ob.length]? with
    | none=>rw[hq]at hk';cases hk'
    | some o'=>
     rw[hq]at hk'
     simp at hk'
     rw[hk']
   have h5:=g2 _ o ho
   have e9:=hcoB (k-ob.length)
   rw[show key+(k-ob.length)=k by omega]at e9
   rw[e9]
   exact h5
  obtain⟨u,h5,h6⟩:=hR.fv hi
  exact⟨u,h5,gI hkeep hN hsame _ _ h6⟩
 exact kk _ _ _ _ _ ⟨r,v,os,hr,hbn,rfl,rfl⟩ (hR'.put d g1) ⟨hsame,fun k _ hk=>hcoA k hk,hbel.size,fun b hlt _=>hbel.block b hlt,hown,fun i hi=>Array.getElem?_setIfInBounds_ne (fun e=>hi (by rw[e]))⟩
theorem NZ {fresh:Bool}{f:FuncId}{args:List FV}{r v:FV}{os:List Ob}{aa:Array Operand}{ats:Array TypeId}{key:Nat}(hw:bI ops x.n g gd=some true) (hS:aE fresh x.P f [] args (aT r)) (hf:CallOk x.P f) (ha:AL fresh x g ob aa.toList args) (hk:eN ob key=true) (hb:kB key r=some (v,os)) (k:WL x ops rest (bH g d v) (ob++os.map some) Q):
  WL x ops (⟨some d,.call ⟨.value (.func f),aa,ats⟩,ty,pos,af,gd⟩::rest) g ob Q:=
 jT (Dh hS hf ha hk (by rintro _ rfl;rw[hb];rfl)) hw (by
  rintro _ _ ⟨r',v',os',rfl,h,rfl,rfl⟩
  rw[hb]at h
  injection h with h
  injection h with h1 h2
  subst h1 h2
  exact k)
theorem OA {late:Nat→Bool}{K fr:List Nat}{fuel:Nat}{listed:Array Bool}{fresh:Bool}{f:FuncId}{args:List FV}{r v:FV}{os:List Ob}{aa:Array Operand}{ats:Array TypeId}{key:Nat}(i:Nat) (hr:Region.ready .any ops listed=[i]) (hi:ops[i]? =some ⟨some d,.call ⟨.value (.func f),aa,ats⟩,ty,pos,af,gd⟩) (hw:bI ops x.n g gd=some true) (hS:aE fresh x.P f [] args (aT r)) (hf:CallOk x.P f) (ha:AL fresh x g ob aa.toList args) (hk:eN ob key=true) (hb:kB key r=some (v,os)) (hK:JM K ob=true)
  (k:WD x ops Q late K (d::fr) true fuel (listed.setIfInBounds i true) (bH g d v) (ob++os.map some)):WD x ops Q late K fr true (fuel+1) listed g ob:=
 Qb (v:=v) i hr hi rfl hw (Dh hS hf ha hk (by rintro _ rfl;rw[hb];rfl)) (by
  rintro _ _ ⟨r',v',os',rfl,h,rfl,rfl⟩
  rw[hb]at h
  injection h with h
  injection h with h1 h2
  subst h1 h2
  exact⟨rfl,fun k hk'=>Tj (o:=none) hK k hk'⟩) (by
  rintro _ _ ⟨r',v',os',rfl,h,rfl,rfl⟩
  rw[hb]at h
  injection h with h
  injection h with h1 h2
  subst h1 h2
  exact k)
end
set_option maxRecDepth 100000
theorem tt2:eB Tryz.prog 2 ⟨false,1,[.int .i64 0],.it .i64⟩:=⟨⟨.mk (by kernel_rfl) (by kernel_rfl),rfl⟩,.mk (by kernel_rfl),.mk (by kernel_rfl),.mk (by kernel_rfl)⟩
theorem tt3:eB Tryz.prog 3 ⟨false,1,[.int .i64 0],.it .i64⟩:=⟨⟨.mk (by kernel_rfl) (by kernel_rfl),rfl⟩,.mk (by kernel_rfl),.mk (by kernel_rfl),.mk (by kernel_rfl)⟩
theorem tt4:eB Tryz.prog 4 ⟨false,1,[.bool false],.bl⟩:=⟨⟨.mk (by kernel_rfl) (by kernel_rfl),rfl⟩,.mk (by kernel_rfl),.mk (by kernel_rfl),.mk (by kernel_rfl)⟩
theorem tt5:eB Tryz.prog 5 ⟨false,1,[.int .u8 0],.it .u8⟩:=⟨⟨.mk (by kernel_rfl) (by kernel_rfl),rfl⟩,.mk (by kernel_rfl),.mk (by kernel_rfl),.mk (by kernel_rfl)⟩
theorem tt9:eB Tryz.prog 9 ⟨false,1,[.string ⟨#[]⟩],.str⟩:=⟨⟨.mk (by kernel_rfl) (by kernel_rfl),rfl⟩,.mk (by kernel_rfl),.mk (by kernel_rfl),.mk (by kernel_rfl)⟩
theorem aAs:eB Tryz.prog 22 ⟨false,1,[.slice none 0 0],.sl 67 6 112 (.agg #[.slice none 0 0,.slice none 0 0,.bool false,.slice none 0 0,.bool false,.slice none 0 0])⟩:=⟨⟨.mk (by kernel_rfl) (by kernel_rfl),rfl⟩,.mk (by kernel_rfl),.mk (by kernel_rfl),⟨.mk (by kernel_rfl) (by kernel_rfl),.mk (by kernel_rfl) (by kernel_rfl) rfl (by decide)⟩⟩
theorem aAt:eB Tryz.prog 25 ⟨false,1,[.slice none 0 0],.sl 83 6 112 (.agg #[.slice none 0 0,.slice none 0 0,.bool false,.slice none 0 0,.bool false,.slice none 0 0])⟩:=⟨⟨.mk (by kernel_rfl) (by kernel_rfl),rfl⟩,.mk (by kernel_rfl),.mk (by kernel_rfl),⟨.mk (by kernel_rfl) (by kernel_rfl),.mk (by kernel_rfl) (by kernel_rfl) rfl (by decide)⟩⟩
theorem aAu:eB Tryz.prog 27 ⟨false,1,[.slice none 0 0],.sl 106 5 88 (.agg #[.bool false,.slice none 0 0,.bool false,.slice none 0 0,.slice none 0 0])⟩:=⟨⟨.mk (by kernel_rfl) (by kernel_rfl),rfl⟩,.mk (by kernel_rfl),.mk (by kernel_rfl),⟨.mk (by kernel_rfl) (by kernel_rfl),.mk (by kernel_rfl) (by kernel_rfl) rfl (by decide)⟩⟩
theorem aAv:eB Tryz.prog 28 ⟨false,1,[.slice none 0 0],.sl 87 18 272 (.agg #[.int .i64 0,.int .i64 0,.bool false,.slice none 0 0,.bool false,.slice none 0 0,.bool false,.slice none 0 0,.bool false,.slice none 0 0,.bool false,.slice none 0 0,.bool false,.slice none 0 0,.bool false,.slice none 0 0,.bool false,.slice none 0 0])⟩:=⟨⟨.mk (by kernel_rfl) (by kernel_rfl),rfl⟩,.mk (by kernel_rfl),.mk (by kernel_rfl),⟨.mk (by kernel_rfl) (by kernel_rfl),.mk (by kernel_rfl) (by kernel_rfl) rfl (by decide)⟩⟩
theorem aAw:eB Tryz.prog 29 ⟨false,1,[.slice none 0 0],.sl 109 7 88 (.agg #[.int .i64 0,.int .i64 0,.int .i64 0,.bool false,.slice none 0 0,.bool false,.slice none 0 0])⟩:=⟨⟨.mk (by kernel_rfl) (by kernel_rfl),rfl⟩,.mk (by kernel_rfl),.mk (by kernel_rfl),⟨.mk (by kernel_rfl) (by kernel_rfl),.mk (by kernel_rfl) (by kernel_rfl) rfl (by decide)⟩⟩
theorem aAx:eB Tryz.prog 31 ⟨true,3,[.slice none 0 0,.slice none 0 0,.slice none 0 0],.st [(0,27,1),(1,28,1),(2,29,1)]⟩:=⟨.mk (by kernel_rfl) (by kernel_rfl),.mk (by kernel_rfl),.mk (by kernel_rfl),⟨⟨.mk (by kernel_rfl),.mk (by kernel_rfl),⟨.mk (by kernel_rfl),.mk (by kernel_rfl),⟨.mk (by kernel_rfl),.mk (by kernel_rfl),trivial⟩⟩⟩,.mk (by kernel_rfl)⟩⟩
theorem aAy:eB Tryz.prog 32 ⟨false,1,[.int .i64 0],.it .i64⟩:=⟨⟨.mk (by kernel_rfl) (by kernel_rfl),rfl⟩,.mk (by kernel_rfl),.mk (by kernel_rfl),.mk (by kernel_rfl)⟩
theorem aAz:eB Tryz.prog 35 ⟨false,1,[.slice none 0 0],.sl 62 5 88 (.agg #[.bool false,.slice none 0 0,.bool false,.slice none 0 0,.slice none 0 0])⟩:=⟨⟨.mk (by kernel_rfl) (by kernel_rfl),rfl⟩,.mk (by kernel_rfl),.mk (by kernel_rfl),⟨.mk (by kernel_rfl) (by kernel_rfl),.mk (by kernel_rfl) (by kernel_rfl) rfl (by decide)⟩⟩
theorem aAA:eB Tryz.prog 36 ⟨false,1,[.slice none 0 0],.sl 64 18 272 (.agg #[.int .i64 0,.int .i64 0,.bool false,.slice none 0 0,.bool false,.slice none 0 0,.bool false,.slice none 0 0,.bool false,.slice none 0 0,.bool false,.slice none 0 0,.bool false,.slice none 0 0,.bool false,.slice none 0 0,.bool false,.slice none 0 0])⟩:=⟨⟨.mk (by kernel_rfl) (by kernel_rfl),rfl⟩,.mk (by kernel_rfl),.mk (by kernel_rfl),⟨.mk (by kernel_rfl) (by kernel_rfl),.mk (by kernel_rfl) (by kernel_rfl) rfl (by decide)⟩⟩
theorem aAB:eB Tryz.prog 37 ⟨false,1,[.slice none 0 0],.sl 58 7 88 (.agg #[.int .i64 0,.int .i64 0,.int .i64 0,.bool false,.slice none 0 0,.bool false,.slice none 0 0])⟩:=⟨⟨.mk (by kernel_rfl) (by kernel_rfl),rfl⟩,.mk (by kernel_rfl),.mk (by kernel_rfl),⟨.mk (by kernel_rfl) (by kernel_rfl),.mk (by kernel_rfl) (by kernel_rfl) rfl (by decide)⟩⟩
theorem aAC:eB Tryz.prog 39 ⟨true,3,[.slice none 0 0,.slice none 0 0,.slice none 0 0],.st [(0,35,1),(1,36,1),(2,37,1)]⟩:=⟨.mk (by kernel_rfl) (by kernel_rfl),.mk (by kernel_rfl),.mk (by kernel_rfl),⟨⟨.mk (by kernel_rfl),.mk (by kernel_rfl),⟨.mk (by kernel_rfl),.mk (by kernel_rfl),⟨.mk (by kernel_rfl),.mk (by kernel_rfl),trivial⟩⟩⟩,.mk (by kernel_rfl)⟩⟩
theorem aAD:eB Tryz.prog 44 ⟨false,1,[.slice none 0 0],.sl 113 1 4 (.int .u32 0)⟩:=⟨⟨.mk (by kernel_rfl) (by kernel_rfl),rfl⟩,.mk (by kernel_rfl),.mk (by kernel_rfl),⟨.mk (by kernel_rfl) (by kernel_rfl),.mk (by kernel_rfl) (by kernel_rfl) rfl (by decide)⟩⟩
theorem aAE:eB Tryz.prog 46 ⟨true,2,[.bool false,.slice none 0 0],.st [(0,4,1),(1,44,1)]⟩:=⟨.mk (by kernel_rfl) (by kernel_rfl),.mk (by kernel_rfl),.mk (by kernel_rfl),⟨⟨.mk (by kernel_rfl),.mk (by kernel_rfl),⟨.mk (by kernel_rfl),.mk (by kernel_rfl),trivial⟩⟩,.mk (by kernel_rfl)⟩⟩
theorem aAF:eB Tryz.prog 48 ⟨true,4,[.bool false,.slice none 0 0,.bool false,.slice none 0 0],.st [(0,46,2),(2,46,2)]⟩:=⟨.mk (by kernel_rfl) (by kernel_rfl),.mk (by kernel_rfl),.mk (by kernel_rfl),⟨⟨.mk (by kernel_rfl),.mk (by kernel_rfl),⟨.mk (by kernel_rfl),.mk (by kernel_rfl),trivial⟩⟩,.mk (by kernel_rfl)⟩⟩
theorem aAG:eB Tryz.prog 50 ⟨true,2,[.bool false,.slice none 0 0],.st [(0,4,1),(1,44,1)]⟩:=⟨.mk (by kernel_rfl) (by kernel_rfl),.mk (by kernel_rfl),.mk (by kernel_rfl),⟨⟨.mk (by kernel_rfl),.mk (by kernel_rfl),⟨.mk (by kernel_rfl),.mk (by kernel_rfl),trivial⟩⟩,.mk (by kernel_rfl)⟩⟩
theorem aAH:eB Tryz.prog 52 ⟨true,4,[.bool false,.slice none 0 0,.bool false,.slice none 0 0],.st [(0,50,2),(2,50,2)]⟩:=⟨.mk (by kernel_rfl) (by kernel_rfl),.mk (by kernel_rfl),.mk (by kernel_rfl),⟨⟨.mk (by kernel_rfl),.mk (by kernel_rfl),⟨.mk (by kernel_rfl),.mk (by kernel_rfl),trivial⟩⟩,.mk (by kernel_rfl)⟩⟩
theorem aAI:eB Tryz.prog 58 ⟨true,7,[.int .i64 0,.int .i64 0,.int .i64 0,.bool false,.slice none 0 0,.bool false,.slice none 0 0],.st [(0,3,1),(1,3,1),(2,3,1),(3,48,4)]⟩:=⟨.mk (by kernel_rfl) (by kernel_rfl),.mk (by kernel_rfl),.mk (by kernel_rfl),⟨⟨.mk (by kernel_rfl),.mk (by kernel_rfl),⟨.mk (by kernel_rfl),.mk (by kernel_rfl),⟨.mk (by kernel_rfl),.mk (by kernel_rfl),⟨.mk (by kernel_rfl),.mk (by kernel_rfl),trivial⟩⟩⟩⟩,.mk (by kernel_rfl)⟩⟩
theorem aAJ:eB Tryz.prog 60 ⟨false,1,[.slice none 0 0],.sl 48 4 64 (.agg #[.bool false,.slice none 0 0,.bool false,.slice none 0 0])⟩:=⟨⟨.mk (by kernel_rfl) (by kernel_rfl),rfl⟩,.mk (by kernel_rfl),.mk (by kernel_rfl),⟨.mk (by kernel_rfl) (by kernel_rfl),.mk (by kernel_rfl) (by kernel_rfl) rfl (by decide)⟩⟩
theorem aAK:eB Tryz.prog 62 ⟨true,5,[.bool false,.slice none 0 0,.bool false,.slice none 0 0,.slice none 0 0],.st [(0,48,4),(4,60,1)]⟩:=⟨.mk (by kernel_rfl) (by kernel_rfl),.mk (by kernel_rfl),.mk (by kernel_rfl),⟨⟨.mk (by kernel_rfl),.mk (by kernel_rfl),⟨.mk (by kernel_rfl),.mk (by kernel_rfl),trivial⟩⟩,.mk (by kernel_rfl)⟩⟩
theorem aAL:eB Tryz.prog 64 ⟨true,18,[.int .i64 0,.int .i64 0,.bool false,.slice none 0 0,.bool false,.slice none 0 0,.bool false,.slice none 0 0,.bool false,.slice none 0 0,.bool false,.slice none 0 0,.bool false,.slice none 0 0,.bool false,.slice none 0 0,.bool false,.slice none 0 0],.st [(0,3,1),(1,3,1),(2,48,4),(6,48,4),(10,48,4),(14,48,4)]⟩:=⟨.mk (by kernel_rfl) (by kernel_rfl),.mk (by kernel_rfl),.mk (by kernel_rfl),⟨⟨.mk (by kernel_rfl),.mk (by kernel_rfl),⟨.mk (by kernel_rfl),.mk (by kernel_rfl),⟨.mk (by kernel_rfl),.mk (by kernel_rfl),⟨.mk (by kernel_rfl),.mk (by kernel_rfl),⟨.mk (by kernel_rfl),.mk (by kernel_rfl),⟨.mk (by kernel_rfl),.mk (by kernel_rfl),trivial⟩⟩⟩⟩⟩⟩,.mk (by kernel_rfl)⟩⟩
theorem aAM:eB Tryz.prog 65 ⟨false,1,[.slice none 0 0],.sl 4 1 1 (.bool false)⟩:=⟨⟨.mk (by kernel_rfl) (by kernel_rfl),rfl⟩,.mk (by kernel_rfl),.mk (by kernel_rfl),⟨.mk (by kernel_rfl) (by kernel_rfl),.mk (by kernel_rfl) (by kernel_rfl) rfl (by decide)⟩⟩
theorem aAN:eB Tryz.prog 67 ⟨true,6,[.slice none 0 0,.slice none 0 0,.bool false,.slice none 0 0,.bool false,.slice none 0 0],.st [(0,65,1),(1,60,1),(2,48,4)]⟩:=⟨.mk (by kernel_rfl) (by kernel_rfl),.mk (by kernel_rfl),.mk (by kernel_rfl),⟨⟨.mk (by kernel_rfl),.mk (by kernel_rfl),⟨.mk (by kernel_rfl),.mk (by kernel_rfl),⟨.mk (by kernel_rfl),.mk (by kernel_rfl),trivial⟩⟩⟩,.mk (by kernel_rfl)⟩⟩
theorem aAO:eB Tryz.prog 81 ⟨false,1,[.slice none 0 0],.sl 52 4 64 (.agg #[.bool false,.slice none 0 0,.bool false,.slice none 0 0])⟩:=⟨⟨.mk (by kernel_rfl) (by kernel_rfl),rfl⟩,.mk (by kernel_rfl),.mk (by kernel_rfl),⟨.mk (by kernel_rfl) (by kernel_rfl),.mk (by kernel_rfl) (by kernel_rfl) rfl (by decide)⟩⟩
theorem aAP:eB Tryz.prog 83 ⟨true,6,[.slice none 0 0,.slice none 0 0,.bool false,.slice none 0 0,.bool false,.slice none 0 0],.st [(0,65,1),(1,81,1),(2,52,4)]⟩:=⟨.mk (by kernel_rfl) (by kernel_rfl),.mk (by kernel_rfl),.mk (by kernel_rfl),⟨⟨.mk (by kernel_rfl),.mk (by kernel_rfl),⟨.mk (by kernel_rfl),.mk (by kernel_rfl),⟨.mk (by kernel_rfl),.mk (by kernel_rfl),trivial⟩⟩⟩,.mk (by kernel_rfl)⟩⟩
theorem aAQ:eB Tryz.prog 87 ⟨true,18,[.int .i64 0,.int .i64 0,.bool false,.slice none 0 0,.bool false,.slice none 0 0,.bool false,.slice none 0 0,.bool false,.slice none 0 0,.bool false,.slice none 0 0,.bool false,.slice none 0 0,.bool false,.slice none 0 0,.bool false,.slice none 0 0],.st [(0,3,1),(1,3,1),(2,52,4),(6,52,4),(10,52,4),(14,52,4)]⟩:=⟨.mk (by kernel_rfl) (by kernel_rfl),.mk (by kernel_rfl),.mk (by kernel_rfl),⟨⟨.mk (by kernel_rfl),.mk (by kernel_rfl),⟨.mk (by kernel_rfl),.mk (by kernel_rfl),⟨.mk (by kernel_rfl),.mk (by kernel_rfl),⟨.mk (by kernel_rfl),.mk (by kernel_rfl),⟨.mk (by kernel_rfl),.mk (by kernel_rfl),⟨.mk (by kernel_rfl),.mk (by kernel_rfl),trivial⟩⟩⟩⟩⟩⟩,.mk (by kernel_rfl)⟩⟩
theorem aAR:eB Tryz.prog 92 ⟨false,1,[.pointer none],.pt⟩:=⟨⟨.mk (by kernel_rfl) (by kernel_rfl),rfl⟩,.mk (by kernel_rfl),.mk (by kernel_rfl),.mk (by kernel_rfl)⟩
theorem aAS:eB Tryz.prog 93 ⟨false,1,[.slice none 0 0],.sl 96 1 8 (.pointer none)⟩:=⟨⟨.mk (by kernel_rfl) (by kernel_rfl),rfl⟩,.mk (by kernel_rfl),.mk (by kernel_rfl),⟨.mk (by kernel_rfl) (by kernel_rfl),.mk (by kernel_rfl) (by kernel_rfl) rfl (by decide)⟩⟩
theorem aAT:eB Tryz.prog 95 ⟨true,4,[.slice none 0 0,.slice none 0 0,.slice none 0 0,.slice none 0 0],.st [(0,39,3),(3,93,1)]⟩:=⟨.mk (by kernel_rfl) (by kernel_rfl),.mk (by kernel_rfl),.mk (by kernel_rfl),⟨⟨.mk (by kernel_rfl),.mk (by kernel_rfl),⟨.mk (by kernel_rfl),.mk (by kernel_rfl),trivial⟩⟩,.mk (by kernel_rfl)⟩⟩
theorem aAU:eB Tryz.prog 96 ⟨false,1,[.pointer none],.pt⟩:=⟨⟨.mk (by kernel_rfl) (by kernel_rfl),rfl⟩,.mk (by kernel_rfl),.mk (by kernel_rfl),.mk (by kernel_rfl)⟩
theorem aAV:eB Tryz.prog 99 ⟨false,1,[.slice none 0 0],.sl 102 5 72 (.agg #[.int .i64 0,.bool false,.slice none 0 0,.bool false,.slice none 0 0])⟩:=⟨⟨.mk (by kernel_rfl) (by kernel_rfl),rfl⟩,.mk (by kernel_rfl),.mk (by kernel_rfl),⟨.mk (by kernel_rfl) (by kernel_rfl),.mk (by kernel_rfl) (by kernel_rfl) rfl (by decide)⟩⟩
theorem XK:eB Tryz.prog 102 ⟨true,5,[.int .i64 0,.bool false,.slice none 0 0,.bool false,.slice none 0 0],.st [(0,3,1),(1,48,4)]⟩:=⟨.mk (by kernel_rfl) (by kernel_rfl),.mk (by kernel_rfl),.mk (by kernel_rfl),⟨⟨.mk (by kernel_rfl),.mk (by kernel_rfl),⟨.mk (by kernel_rfl),.mk (by kernel_rfl),trivial⟩⟩,.mk (by kernel_rfl)⟩⟩
theorem XL:eB Tryz.prog 106 ⟨true,5,[.bool false,.slice none 0 0,.bool false,.slice none 0 0,.slice none 0 0],.st [(0,52,4),(4,81,1)]⟩:=⟨.mk (by kernel_rfl) (by kernel_rfl),.mk (by kernel_rfl),.mk (by kernel_rfl),⟨⟨.mk (by kernel_rfl),.mk (by kernel_rfl),⟨.mk (by kernel_rfl),.mk (by kernel_rfl),trivial⟩⟩,.mk (by kernel_rfl)⟩⟩
theorem XM:eB Tryz.prog 109 ⟨true,7,[.int .i64 0,.int .i64 0,.int .i64 0,.bool false,.slice none 0 0,.bool false,.slice none 0 0],.st [(0,3,1),(1,3,1),(2,3,1),(3,52,4)]⟩:=⟨.mk (by kernel_rfl) (by kernel_rfl),.mk (by kernel_rfl),.mk (by kernel_rfl),⟨⟨.mk (by kernel_rfl),.mk (by kernel_rfl),⟨.mk (by kernel_rfl),.mk (by kernel_rfl),⟨.mk (by kernel_rfl),.mk (by kernel_rfl),⟨.mk (by kernel_rfl),.mk (by kernel_rfl),trivial⟩⟩⟩⟩,.mk (by kernel_rfl)⟩⟩
theorem XN:eB Tryz.prog 113 ⟨false,1,[.int .u32 0],.it .u32⟩:=⟨⟨.mk (by kernel_rfl) (by kernel_rfl),rfl⟩,.mk (by kernel_rfl),.mk (by kernel_rfl),.mk (by kernel_rfl)⟩
theorem XO:eB Tryz.prog 120 ⟨true,4,[.bool false,.slice none 0 0,.bool false,.slice none 0 0],.st [(0,48,4)]⟩:=⟨.mk (by kernel_rfl) (by kernel_rfl),.mk (by kernel_rfl),.mk (by kernel_rfl),⟨⟨.mk (by kernel_rfl),.mk (by kernel_rfl),trivial⟩,.mk (by kernel_rfl)⟩⟩
theorem XP:eB Tryz.prog 135 ⟨true,1,[.slice none 0 0],.st [(0,99,1)]⟩:=⟨.mk (by kernel_rfl) (by kernel_rfl),.mk (by kernel_rfl),.mk (by kernel_rfl),⟨⟨.mk (by kernel_rfl),.mk (by kernel_rfl),trivial⟩,.mk (by kernel_rfl)⟩⟩
theorem XQ:eB Tryz.prog 137 ⟨true,3,[.slice none 0 0,.int .i64 0,.bool false],.st [(0,135,1),(1,3,1),(2,4,1)]⟩:=⟨.mk (by kernel_rfl) (by kernel_rfl),.mk (by kernel_rfl),.mk (by kernel_rfl),⟨⟨.mk (by kernel_rfl),.mk (by kernel_rfl),⟨.mk (by kernel_rfl),.mk (by kernel_rfl),⟨.mk (by kernel_rfl),.mk (by kernel_rfl),trivial⟩⟩⟩,.mk (by kernel_rfl)⟩⟩
theorem XR:eB Tryz.prog 147 ⟨true,2,[.bool false,.slice none 0 0],.st [(0,46,2)]⟩:=⟨.mk (by kernel_rfl) (by kernel_rfl),.mk (by kernel_rfl),.mk (by kernel_rfl),⟨⟨.mk (by kernel_rfl),.mk (by kernel_rfl),trivial⟩,.mk (by kernel_rfl)⟩⟩
theorem XS:eB Tryz.prog 151 ⟨false,1,[.int .u64 0],.it .u64⟩:=⟨⟨.mk (by kernel_rfl) (by kernel_rfl),rfl⟩,.mk (by kernel_rfl),.mk (by kernel_rfl),.mk (by kernel_rfl)⟩
theorem XT:eB Tryz.prog 152 ⟨false,1,[.int .u64 0],.it .u64⟩:=⟨⟨.mk (by kernel_rfl) (by kernel_rfl),rfl⟩,.mk (by kernel_rfl),.mk (by kernel_rfl),.mk (by kernel_rfl)⟩
theorem XU:eB Tryz.prog 163 ⟨false,1,[.nilFunc],.ot⟩:=⟨⟨.mk (by kernel_rfl) (by kernel_rfl),rfl⟩,.mk (by kernel_rfl),.mk (by kernel_rfl),trivial⟩
theorem XV:eB Tryz.prog 165 ⟨true,12,[.slice none 0 0,.slice none 0 0,.bool false,.slice none 0 0,.bool false,.slice none 0 0,.bool false,.slice none 0 0,.bool false,.slice none 0 0,.slice none 0 0,.nilFunc],.st [(0,67,6),(6,62,5),(11,163,1)]⟩:=⟨.mk (by kernel_rfl) (by kernel_rfl),.mk (by kernel_rfl),.mk (by kernel_rfl),⟨⟨.mk (by kernel_rfl),.mk (by kernel_rfl),⟨.mk (by kernel_rfl),.mk (by kernel_rfl),⟨.mk (by kernel_rfl),.mk (by kernel_rfl),trivial⟩⟩⟩,.mk (by kernel_rfl)⟩⟩
theorem XW:eB Tryz.prog 170 ⟨false,1,[.nilFunc],.ot⟩:=⟨⟨.mk (by kernel_rfl) (by kernel_rfl),rfl⟩,.mk (by kernel_rfl),.mk (by kernel_rfl),trivial⟩
theorem XX:eB Tryz.prog 180 ⟨false,1,[.slice none 0 0],.sl 3 1 8 (.int .i64 0)⟩:=⟨⟨.mk (by kernel_rfl) (by kernel_rfl),rfl⟩,.mk (by kernel_rfl),.mk (by kernel_rfl),⟨.mk (by kernel_rfl) (by kernel_rfl),.mk (by kernel_rfl) (by kernel_rfl) rfl (by decide)⟩⟩
theorem XY:eB Tryz.prog 202 ⟨false,1,[.slice none 0 0],.sl 44 1 24 (.slice none 0 0)⟩:=⟨⟨.mk (by kernel_rfl) (by kernel_rfl),rfl⟩,.mk (by kernel_rfl),.mk (by kernel_rfl),⟨.mk (by kernel_rfl) (by kernel_rfl),.mk (by kernel_rfl) (by kernel_rfl) rfl (by decide)⟩⟩
theorem XZ:eB Tryz.prog 221 ⟨false,1,[.nilIface],.ot⟩:=⟨⟨.mk (by kernel_rfl) (by kernel_rfl),rfl⟩,.mk (by kernel_rfl),.mk (by kernel_rfl),trivial⟩
def ttab:List (Nat×TI):=[(2,⟨false,1,[.int .i64 0],.it .i64⟩),
 (3,⟨false,1,[.int .i64 0],.it .i64⟩),
 (4,⟨false,1,[.bool false],.bl⟩),
 (5,⟨false,1,[.int .u8 0],.it .u8⟩),
 (9,⟨false,1,[.string ⟨#[]⟩],.str⟩),
 (22,⟨false,1,[.slice none 0 0],.sl 67 6 112 (.agg #[.slice none 0 0,.slice none 0 0,.bool false,.slice none 0 0,.bool false,.slice none 0 0])⟩),
 (25,⟨false,1,[.slice none 0 0],.sl 83 6 112 (.agg #[.slice none 0 0,.slice none 0 0,.bool false,.slice none 0 0,.bool false,.slice none 0 0])⟩),
 (27,⟨false,1,[.slice none 0 0],.sl 106 5 88 (.agg #[.bool false,.slice none 0 0,.bool false,.slice none 0 0,.slice none 0 0])⟩),
 (28,⟨false,1,[.slice none 0 0],.sl 87 18 272 (.agg #[.int .i64 0,.int .i64 0,.bool false,.slice none 0 0,.bool false,.slice none 0 0,.bool false,.slice none 0 0,.bool false,.slice none 0 0,.bool false,.slice none 0 0,.bool false,.slice none 0 0,.bool false,.slice none 0 0,.bool false,.slice none 0 0])⟩),
 (29,⟨false,1,[.slice none 0 0],.sl 109 7 88 (.agg #[.int .i64 0,.int .i64 0,.int .i64 0,.bool false,.slice none 0 0,.bool false,.slice none 0 0])⟩),
 (31,⟨true,3,[.slice none 0 0,.slice none 0 0,.slice none 0 0],.st [(0,27,1),(1,28,1),(2,29,1)]⟩),
 (32,⟨false,1,[.int .i64 0],.it .i64⟩),
 (35,⟨false,1,[.slice none 0 0],.sl 62 5 88 (.agg #[.bool false,.slice none 0 0,.bool false,.slice none 0 0,.slice none 0 0])⟩),
 (36,⟨false,1,[.slice none 0 0],.sl 64 18 272 (.agg #[.int .i64 0,.int .i64 0,.bool false,.slice none 0 0,.bool false,.slice none 0 0,.bool false,.slice none 0 0,.bool false,.slice none 0 0,.bool false,.slice none 0 0,.bool false,.slice none 0 0,.bool false,.slice none 0 0,.bool false,.slice none 0 0])⟩),
 (37,⟨false,1,[.slice none 0 0],.sl 58 7 88 (.agg #[.int .i64 0,.int .i64 0,.int .i64 0,.bool false,.slice none 0 0,.bool false,.slice none 0 0])⟩),
 (39,⟨true,3,[.slice none 0 0,.slice none 0 0,.slice none 0 0],.st [(0,35,1),(1,36,1),(2,37,1)]⟩),
 (44,⟨false,1,[.slice none 0 0],.sl 113 1 4 (.int .u32 0)⟩),
 (46,⟨true,2,[.bool false,.slice none 0 0],.st [(0,4,1),(1,44,1)]⟩),
 (48,⟨true,4,[.bool false,.slice none 0 0,.bool false,.slice none 0 0],.st [(0,46,2),(2,46,2)]⟩),
 (50,⟨true,2,[.bool false,.slice none 0 0],.st [(0,4,1),(1,44,1)]⟩),
 (52,⟨true,4,[.bool false,.slice none 0 0,.bool false,.slice none 0 0],.st [(0,50,2),(2,50,2)]⟩),
 (58,⟨true,7,[.int .i64 0,.int .i64 0,.int .i64 0,.bool false,.slice none 0 0,.bool false,.slice none 0 0],.st [(0,3,1),(1,3,1),(2,3,1),(3,48,4)]⟩),
 (60,⟨false,1,[.slice none 0 0],.sl 48 4 64 (.agg #[.bool false,.slice none 0 0,.bool false,.slice none 0 0])⟩),
 (62,⟨true,5,[.bool false,.slice none 0 0,.bool false,.slice none 0 0,.slice none 0 0],.st [(0,48,4),(4,60,1)]⟩),
 (64,⟨true,18,[.int .i64 0,.int .i64 0,.bool false,.slice none 0 0,.bool false,.slice none 0 0,.bool false,.slice none 0 0,.bool false,.slice none 0 0,.bool false,.slice none 0 0,.bool false,.slice none 0 0,.bool false,.slice none 0 0,.bool false,.slice none 0 0],.st [(0,3,1),(1,3,1),(2,48,4),(6,48,4),(10,48,4),(14,48,4)]⟩),
 (65,⟨false,1,[.slice none 0 0],.sl 4 1 1 (.bool false)⟩),
 (67,⟨true,6,[.slice none 0 0,.slice none 0 0,.bool false,.slice none 0 0,.bool false,.slice none 0 0],.st [(0,65,1),(1,60,1),(2,48,4)]⟩),
 (81,⟨false,1,[.slice none 0 0],.sl 52 4 64 (.agg #[.bool false,.slice none 0 0,.bool false,.slice none 0 0])⟩),
 (83,⟨true,6,[.slice none 0 0,.slice none 0 0,.bool false,.slice none 0 0,.bool false,.slice none 0 0],.st [(0,65,1),(1,81,1),(2,52,4)]⟩),
 (87,⟨true,18,[.int .i64 0,.int .i64 0,.bool false,.slice none 0 0,.bool false,.slice none 0 0,.bool false,.slice none 0 0,.bool false,.slice none 0 0,.bool false,.slice none 0 0,.bool false,.slice none 0 0,.bool false,.slice none 0 0,.bool false,.slice none 0 0],.st [(0,3,1),(1,3,1),(2,52,4),(6,52,4),(10,52,4),(14,52,4)]⟩),
 (92,⟨false,1,[.pointer none],.pt⟩),
 (93,⟨false,1,[.slice none 0 0],.sl 96 1 8 (.pointer none)⟩),
 (95,⟨true,4,[.slice none 0 0,.slice none 0 0,.slice none 0 0,.slice none 0 0],.st [(0,39,3),(3,93,1)]⟩),
 (96,⟨false,1,[.pointer none],.pt⟩),
 (99,⟨false,1,[.slice none 0 0],.sl 102 5 72 (.agg #[.int .i64 0,.bool false,.slice none 0 0,.bool false,.slice none 0 0])⟩),
 (102,⟨true,5,[.int .i64 0,.bool false,.slice none 0 0,.bool false,.slice none 0 0],.st [(0,3,1),(1,48,4)]⟩),
 (106,⟨true,5,[.bool false,.slice none 0 0,.bool false,.slice none 0 0,.slice none 0 0],.st [(0,52,4),(4,81,1)]⟩),
 (109,⟨true,7,[.int .i64 0,.int .i64 0,.int .i64 0,.bool false,.slice none 0 0,.bool false,.slice none 0 0],.st [(0,3,1),(1,3,1),(2,3,1),(3,52,4)]⟩),
 (113,⟨false,1,[.int .u32 0],.it .u32⟩),
 (120,⟨true,4,[.bool false,.slice none 0 0,.bool false,.slice none 0 0],.st [(0,48,4)]⟩),
 (135,⟨true,1,[.slice none 0 0],.st [(0,99,1)]⟩),
 (137,⟨true,3,[.slice none 0 0,.int .i64 0,.bool false],.st [(0,135,1),(1,3,1),(2,4,1)]⟩),
 (147,⟨true,2,[.bool false,.slice none 0 0],.st [(0,46,2)]⟩),
 (151,⟨false,1,[.int .u64 0],.it .u64⟩),
 (152,⟨false,1,[.int .u64 0],.it .u64⟩),
 (163,⟨false,1,[.nilFunc],.ot⟩),
 (165,⟨true,12,[.slice none 0 0,.slice none 0 0,.bool false,.slice none 0 0,.bool false,.slice none 0 0,.bool false,.slice none 0 0,.bool false,.slice none 0 0,.slice none 0 0,.nilFunc],.st [(0,67,6),(6,62,5),(11,163,1)]⟩),
 (170,⟨false,1,[.nilFunc],.ot⟩),
 (180,⟨false,1,[.slice none 0 0],.sl 3 1 8 (.int .i64 0)⟩),
 (202,⟨false,1,[.slice none 0 0],.sl 44 1 24 (.slice none 0 0)⟩),
 (221,⟨false,1,[.nilIface],.ot⟩)]
theorem aF:cN Tryz.prog ttab:=⟨tt2,tt3,tt4,tt5,tt9,aAs,aAt,aAu,aAv,aAw,aAx,aAy,aAz,aAA,aAB,aAC,aAD,aAE,aAF,aAG,aAH,aAI,aAJ,aAK,aAL,aAM,aAN,aAO,aAP,aAQ,aAR,aAS,aAT,aAU,aAV,XK,XL,XM,XN,XO,XP,XQ,XR,XS,XT,XU,XV,XW,XX,XY,XZ,trivial⟩
theorem rN:CallOk Tryz.prog 3:=.mk Tryz.func3 (by decide) rfl
theorem ok4:CallOk Tryz.prog 4:=.mk Tryz.func4 (by decide) rfl
theorem ok5:CallOk Tryz.prog 5:=.mk Tryz.func5 (by decide) rfl
theorem Pf:CallOk Tryz.prog 6:=.mk Tryz.func6 (by decide) rfl
theorem KF:CallOk Tryz.prog 8:=.mk Tryz.func8 (by decide) rfl
theorem vT:CallOk Tryz.prog 9:=.mk Tryz.func9 (by decide) rfl
theorem ZW:CallOk Tryz.prog 10:=.mk Tryz.func10 (by decide) rfl
theorem ZX:CallOk Tryz.prog 11:=.mk Tryz.func11 (by decide) rfl
theorem Ds:CallOk Tryz.prog 12:=.mk Tryz.func12 (by decide) rfl
theorem ZY:CallOk Tryz.prog 13:=.mk Tryz.func13 (by decide) rfl
theorem Oy:CallOk Tryz.prog 14:=.mk Tryz.func14 (by decide) rfl
theorem TA:CallOk Tryz.prog 15:=.mk Tryz.func15 (by decide) rfl
theorem ZZ:CallOk Tryz.prog 16:=.mk Tryz.func16 (by decide) rfl
theorem aAa:CallOk Tryz.prog 17:=.mk Tryz.func17 (by decide) rfl
theorem aAb:CallOk Tryz.prog 18:=.mk Tryz.func18 (by decide) rfl
theorem kI:CallOk Tryz.prog 19:=.mk Tryz.func19 (by decide) rfl
theorem mU:CallOk Tryz.prog 20:=.mk Tryz.func20 (by decide) rfl
theorem aAd:CallOk Tryz.prog 21:=.mk Tryz.func21 (by decide) rfl
theorem Xj:CallOk Tryz.prog 22:=.mk Tryz.func22 (by decide) rfl
theorem kR:CallOk Tryz.prog 23:=.mk Tryz.func23 (by decide) rfl
theorem aAc:CallOk Tryz.prog 24:=.mk Tryz.func24 (by decide) rfl
theorem Dj:CallOk Tryz.prog 25:=.mk Tryz.func25 (by decide) rfl
theorem TB:CallOk Tryz.prog 26:=.mk Tryz.func26 (by decide) rfl
theorem Pe:CallOk Tryz.prog 27:=.mk Tryz.func27 (by decide) rfl
theorem xJ:CallOk Tryz.prog 28:=.mk Tryz.func28 (by decide) rfl
theorem nV:CallOk Tryz.prog 29:=.mk Tryz.func29 (by decide) rfl
theorem Xg:CallOk Tryz.prog 30:=.mk Tryz.func30 (by decide) rfl
theorem SN:CallOk Tryz.prog 31:=.mk Tryz.func31 (by decide) rfl
theorem SG:CallOk Tryz.prog 32:=.mk Tryz.func32 (by decide) rfl
theorem ZJ:CallOk Tryz.prog 33:=.mk Tryz.func33 (by decide) rfl
theorem Xe:CallOk Tryz.prog 34:=.mk Tryz.func34 (by decide) rfl
theorem SD:CallOk Tryz.prog 35:=.mk Tryz.func35 (by decide) rfl
theorem SC:CallOk Tryz.prog 36:=.mk Tryz.func36 (by decide) rfl
theorem ZB:CallOk Tryz.prog 37:=.mk Tryz.func37 (by decide) rfl
theorem ZU:CallOk Tryz.prog 38:=.mk Tryz.func38 (by decide) rfl
theorem ZV:CallOk Tryz.prog 39:=.mk Tryz.func39 (by decide) rfl
theorem SV:CallOk Tryz.prog 40:=.mk Tryz.func40 (by decide) rfl
theorem GG:CallOk Tryz.prog 41:=.mk Tryz.func41 (by decide) rfl
theorem GD:CallOk Tryz.prog 42:=.mk Tryz.func42 (by decide) rfl
theorem RL:CallOk Tryz.prog 43:=.mk Tryz.func43 (by decide) rfl
theorem Wy:CallOk Tryz.prog 44:=.mk Tryz.func44 (by decide) rfl
theorem Hj:CallOk Tryz.prog 45:=.mk Tryz.func45 (by decide) rfl
theorem lO:CallOk Tryz.prog 46:=.mk Tryz.func46 (by decide) rfl
theorem EX:CallOk Tryz.prog 47:=.mk Tryz.func47 (by decide) rfl
theorem Nx:CallOk Tryz.prog 48:=.mk Tryz.func48 (by decide) rfl
theorem Xu:CallOk Tryz.prog 49:=.mk Tryz.func49 (by decide) rfl
theorem Dk:CallOk Tryz.prog 50:=.mk Tryz.func50 (by decide) rfl
theorem EY:CallOk Tryz.prog 51:=.mk Tryz.func51 (by decide) rfl
theorem ZK:CallOk Tryz.prog 52:=.mk Tryz.func52 (by decide) rfl
theorem ZL:CallOk Tryz.prog 53:=.mk Tryz.func53 (by decide) rfl
theorem TX:CallOk Tryz.prog 54:=.mk Tryz.func54 (by decide) rfl
theorem HV:CallOk Tryz.prog 55:=.mk Tryz.func55 (by decide) rfl
theorem GL:CallOk Tryz.prog 56:=.mk Tryz.func56 (by decide) rfl
theorem wW:CallOk Tryz.prog 57:=.mk Tryz.func57 (by decide) rfl
theorem ZM:CallOk Tryz.prog 58:=.mk Tryz.func58 (by decide) rfl
theorem ZN:CallOk Tryz.prog 59:=.mk Tryz.func59 (by decide) rfl
theorem Wx:CallOk Tryz.prog 60:=.mk Tryz.func60 (by decide) rfl
theorem FJ:CallOk Tryz.prog 61:=.mk Tryz.func61 (by decide) rfl
theorem Xa:CallOk Tryz.prog 62:=.mk Tryz.func62 (by decide) rfl
theorem Hr:CallOk Tryz.prog 63:=.mk Tryz.func63 (by decide) rfl
theorem wZ:CallOk Tryz.prog 64:=.mk Tryz.func64 (by decide) rfl
theorem RM:CallOk Tryz.prog 65:=.mk Tryz.func65 (by decide) rfl
theorem ZC:CallOk Tryz.prog 66:=.mk Tryz.func66 (by decide) rfl
theorem QY:CallOk Tryz.prog 67:=.mk Tryz.func67 (by decide) rfl
theorem EW:CallOk Tryz.prog 68:=.mk Tryz.func68 (by decide) rfl
theorem ZA:CallOk Tryz.prog 69:=.mk Tryz.func69 (by decide) rfl
theorem ZR:CallOk Tryz.prog 70:=.mk Tryz.func70 (by decide) rfl
theorem ZS:CallOk Tryz.prog 71:=.mk Tryz.func71 (by decide) rfl
theorem ZT:CallOk Tryz.prog 72:=.mk Tryz.func72 (by decide) rfl
theorem RD:CallOk Tryz.prog 73:=.mk Tryz.func73 (by decide) rfl
theorem SQ:CallOk Tryz.prog 74:=.mk Tryz.func74 (by decide) rfl
theorem SP:CallOk Tryz.prog 75:=.mk Tryz.func75 (by decide) rfl
theorem Hf:CallOk Tryz.prog 76:=.mk Tryz.func76 (by decide) rfl
theorem Hh:CallOk Tryz.prog 77:=.mk Tryz.func77 (by decide) rfl
theorem Dp:CallOk Tryz.prog 78:=.mk Tryz.func78 (by decide) rfl
theorem Hi:CallOk Tryz.prog 79:=.mk Tryz.func79 (by decide) rfl
theorem uQ:CallOk Tryz.prog 80:=.mk Tryz.func80 (by decide) rfl
theorem aAW:CallOk Tryz.prog 81:=.mk Tryz.func81 (by decide) rfl
theorem eZ:CallOk Tryz.prog 82:=.mk Tryz.func82 (by decide) rfl
theorem rJ:CallOk Tryz.prog 83:=.mk Tryz.func83 (by decide) rfl
theorem aAX:CallOk Tryz.prog 84:=.mk Tryz.func84 (by decide) rfl
theorem TY:CallOk Tryz.prog 86:=.mk Tryz.func86 (by decide) rfl
theorem aAY:CallOk Tryz.prog 87:=.mk Tryz.func87 (by decide) rfl
theorem TZ:CallOk Tryz.prog 88:=.mk Tryz.func88 (by decide) rfl
theorem UA:CallOk Tryz.prog 89:=.mk Tryz.func89 (by decide) rfl
theorem FH:CallOk Tryz.prog 90:=.mk Tryz.func90 (by decide) rfl
theorem Do:CallOk Tryz.prog 91:=.mk Tryz.func91 (by decide) rfl
theorem ZE:CallOk Tryz.prog 92:=.mk Tryz.func92 (by decide) rfl
theorem FI:CallOk Tryz.prog 93:=.mk Tryz.func93 (by decide) rfl
theorem ZI:CallOk Tryz.prog 94:=.mk Tryz.func94 (by decide) rfl
theorem Wz:CallOk Tryz.prog 95:=.mk Tryz.func95 (by decide) rfl
theorem HW:CallOk Tryz.prog 96:=.mk Tryz.func96 (by decide) rfl
theorem UB:CallOk Tryz.prog 97:=.mk Tryz.func97 (by decide) rfl
theorem YY:CallOk Tryz.prog 98:=.mk Tryz.func98 (by decide) rfl
theorem ZP:CallOk Tryz.prog 99:=.mk Tryz.func99 (by decide) rfl
theorem WX:CallOk Tryz.prog 100:=.mk Tryz.func100 (by decide) rfl
theorem XB:CallOk Tryz.prog 101:=.mk Tryz.func101 (by decide) rfl
theorem XC:CallOk Tryz.prog 102:=.mk Tryz.func102 (by decide) rfl
theorem Et:CallOk Tryz.prog 103:=.mk Tryz.func103 (by decide) rfl
theorem JX:CallOk Tryz.prog 104:=.mk Tryz.func104 (by decide) rfl
theorem WH:CallOk Tryz.prog 105:=.mk Tryz.func105 (by decide) rfl
theorem Lz:CallOk Tryz.prog 106:=.mk Tryz.func106 (by decide) rfl
theorem WI:CallOk Tryz.prog 107:=.mk Tryz.func107 (by decide) rfl
theorem dL:CallOk Tryz.prog 108:=.mk Tryz.func108 (by decide) rfl
theorem Ma:CallOk Tryz.prog 109:=.mk Tryz.func109 (by decide) rfl
theorem nL:CallOk Tryz.prog 110:=.mk Tryz.func110 (by decide) rfl
theorem YA:CallOk Tryz.prog 111:=.mk Tryz.func111 (by decide) rfl
theorem KN:CallOk Tryz.prog 112:=.mk Tryz.func112 (by decide) rfl
theorem gD:CallOk Tryz.prog 113:=.mk Tryz.func113 (by decide) rfl
theorem KO:CallOk Tryz.prog 114:=.mk Tryz.func114 (by decide) rfl
theorem Bu:CallOk Tryz.prog 115:=.mk Tryz.func115 (by decide) rfl
theorem KP:CallOk Tryz.prog 116:=.mk Tryz.func116 (by decide) rfl
theorem KQ:CallOk Tryz.prog 117:=.mk Tryz.func117 (by decide) rfl
theorem KR:CallOk Tryz.prog 118:=.mk Tryz.func118 (by decide) rfl
theorem Mh:CallOk Tryz.prog 120:=.mk Tryz.func120 (by decide) rfl
theorem JZ:CallOk Tryz.prog 121:=.mk Tryz.func121 (by decide) rfl
theorem KS:CallOk Tryz.prog 122:=.mk Tryz.func122 (by decide) rfl
theorem YB:CallOk Tryz.prog 123:=.mk Tryz.func123 (by decide) rfl
theorem Md:CallOk Tryz.prog 124:=.mk Tryz.func124 (by decide) rfl
theorem KC:CallOk Tryz.prog 125:=.mk Tryz.func125 (by decide) rfl
theorem XA:CallOk Tryz.prog 126:=.mk Tryz.func126 (by decide) rfl
theorem WB:CallOk Tryz.prog 127:=.mk Tryz.func127 (by decide) rfl
theorem WA:CallOk Tryz.prog 128:=.mk Tryz.func128 (by decide) rfl
theorem oV:CallOk Tryz.prog 129:=.mk Tryz.func129 (by decide) rfl
theorem KD:CallOk Tryz.prog 130:=.mk Tryz.func130 (by decide) rfl
theorem WG:CallOk Tryz.prog 131:=.mk Tryz.func131 (by decide) rfl
theorem YC:CallOk Tryz.prog 132:=.mk Tryz.func132 (by decide) rfl
theorem YD:CallOk Tryz.prog 133:=.mk Tryz.func133 (by decide) rfl
theorem xW:CallOk Tryz.prog 134:=.mk Tryz.func134 (by decide) rfl
theorem rW:CallOk Tryz.prog 135:=.mk Tryz.func135 (by decide) rfl
theorem Xv:CallOk Tryz.prog 136:=.mk Tryz.func136 (by decide) rfl
theorem Xw:CallOk Tryz.prog 137:=.mk Tryz.func137 (by decide) rfl
theorem Fu:CallOk Tryz.prog 138:=.mk Tryz.func138 (by decide) rfl
theorem KT:CallOk Tryz.prog 139:=.mk Tryz.func139 (by decide) rfl
theorem YE:CallOk Tryz.prog 140:=.mk Tryz.func140 (by decide) rfl
theorem Xx:CallOk Tryz.prog 141:=.mk Tryz.func141 (by decide) rfl
theorem YF:CallOk Tryz.prog 142:=.mk Tryz.func142 (by decide) rfl
theorem YG:CallOk Tryz.prog 143:=.mk Tryz.func143 (by decide) rfl
theorem YH:CallOk Tryz.prog 144:=.mk Tryz.func144 (by decide) rfl
theorem WZ:CallOk Tryz.prog 145:=.mk Tryz.func145 (by decide) rfl
theorem JN:CallOk Tryz.prog 146:=.mk Tryz.func146 (by decide) rfl
theorem JS:CallOk Tryz.prog 147:=.mk Tryz.func147 (by decide) rfl
theorem JT:CallOk Tryz.prog 148:=.mk Tryz.func148 (by decide) rfl
theorem JU:CallOk Tryz.prog 149:=.mk Tryz.func149 (by decide) rfl
theorem KU:CallOk Tryz.prog 150:=.mk Tryz.func150 (by decide) rfl
theorem YI:CallOk Tryz.prog 159:=.mk Tryz.func159 (by decide) rfl
theorem WY:CallOk Tryz.prog 160:=.mk Tryz.func160 (by decide) rfl
theorem mixed:Tryz.prog.follows .mixedOrders=true:=by kernel_rfl
section
variable {x:Cx}{g:Nat→FV}{ob ob':List (Option Ob)}{Q:Post}{ops:Array Oper}{rest:List Oper}{d:Nat}{op:Op}{ty:TypeId}{pos:String}{af:Array Edge}{gd:Option (Nat×Bool)}{C:Prop}{v:FV}
theorem o1 (k:WL x ops rest (bH g d v) ob Q) (hT:cN x.P ttab:=by exact aF) (hw:bI ops x.n g gd=some true:=by rfl) (h:vX ttab x.n g op=some (C,v):=by rfl) (hC:C:=by first | trivial | omega | (simp only[jJ];omega)):WL x ops (⟨some d,op,ty,pos,af,gd⟩::rest) g ob Q:=w_v hT hw h hC k
theorem ld {t:Nat}{i:TI}{a:Operand}(k:WL x ops rest (bH g d v) ob Q) (hT:cN x.P ttab:=by exact aF) (hw:bI ops x.n g gd=some true:=by rfl) (hi:cP ttab t=some i:=by rfl) (h:tD ob i (lk x.n g a)=some (C,v):=by rfl):WL x ops (⟨some d,.load t a,ty,pos,af,gd⟩::rest) g ob Q:=HR hT hw hi h k
theorem dV {t:Nat}{i:TI}{a:Operand}{l:List Tr}{of:Nat}(us:List Tr) (hl:(l.drop of).take us.length=us) (k:WL x ops rest (bH g d v) ob Q) (hT:cN x.P ttab:=by exact aF) (hw:bI ops x.n g gd=some true:=by rfl) (hi:cP ttab t=some i:=by rfl) (h:lk x.n g a=.one (.ef l of):=by rfl) (hv:Pi i us=some v:=by rfl):WL x ops (⟨some d,.load t a,ty,pos,af,gd⟩::rest) g ob Q:=XI hT hw hi h hl hv k
theorem al {t:Nat}(key:Nat) (k:WL x ops rest (bH g d (.one (.pt key 0))) ob' Q) (hT:cN x.P ttab:=by exact aF) (hw:bI ops x.n g gd=some true:=by rfl) (h:zM ttab t key ob=some ob':=by rfl):WL x ops (⟨some d,.alloc t,ty,pos,af,gd⟩::rest) g ob Q:=aAl hT hw h k
theorem bx {t:Nat}{a:Operand}(key:Nat) (k:WL x ops rest (bH g d (.one (.pt key 0))) ob' Q) (hw:bI ops x.n g gd=some true:=by rfl) (h:Pm t key (lk x.n g a) ob=some ob':=by rfl):WL x ops (⟨some d,.box t a,ty,pos,af,gd⟩::rest) g ob Q:=aAm hw h k
theorem st {t:Nat}{i:TI}{a b:Operand}(k:WL x ops rest g ob' Q) (hT:cN x.P ttab:=by exact aF) (hw:bI ops x.n g gd=some true:=by rfl) (hi:cP ttab t=some i:=by rfl) (h:zN i ob (lk x.n g b) (lk x.n g a)=some ob':=by rfl):WL x ops (⟨none,.store t a b,ty,pos,af,gd⟩::rest) g ob Q:=aAn hT hw hi h k
theorem bs {t len:Nat}{ps:Array (Nat×Operand)}(key:Nat) (k:WL x ops rest (bH g d (.one (.sl key 0 len))) ob' Q) (hT:cN x.P ttab:=by exact aF) (hw:bI ops x.n g gd=some true:=by rfl) (h:Iw ttab x.n g t len key ps.toList ob=some ob':=by rfl):WL x ops (⟨some d,.buildSlice t len ps,ty,pos,af,gd⟩::rest) g ob Q:=aAo hT hw h k
theorem cY {o:Oper}(k:WL x ops rest (bH g d (.one (tv undef))) ob Q) (hw:bI ops x.n g o.guard=some false:=by rfl) (hd:o.dst=some d:=by rfl):WL x ops (o::rest) g ob Q:=aAk hw hd k
theorem ca {fresh:Bool}{f:FuncId}{args:List FV}{r:FV}{aa:Array Operand}{ats:Array TypeId}(hS:aE fresh x.P f [] args (aT r)) (hf:CallOk x.P f) (ha:AL fresh x g ob aa.toList args) (v:FV) (k:WL x ops rest (bH g d v) ob Q) (hw:bI ops x.n g gd=some true:=by rfl) (hv:zS r=v:=by rfl):
  WL x ops (⟨some d,.call ⟨.value (.func f),aa,ats⟩,ty,pos,af,gd⟩::rest) g ob Q:=TU hw hS hf ha hv k
variable {late:Nat→Bool}{K fr:List Nat}{on:Bool}{fuel:Nat}{listed:Array Bool}
theorem dv (i:Nat) (k:WD x ops Q late K fr true fuel (listed.setIfInBounds i true) (bH g d v) ob) (hT:cN x.P ttab:=by exact aF) (hi:ops[i]? =some ⟨some d,op,ty,pos,af,gd⟩:=by rfl) (hst:mX ops late listed i=true:=by kernel_rfl) (hw:bI ops x.n g gd=some true:=by rfl) (h:vX ttab x.n (mW fr g) op=some (C,v):=by rfl) (hC:C:=by first | trivial | omega | (simp only[jJ];omega)) (hg:vX ttab x.n g op=some (C,v):=by rfl):WD x ops Q late K fr true (fuel+1) listed g ob:=dt i hT hi hst hw h hC hg k
theorem df (i:Nat) (k:WD x ops Q late K (d::fr) true fuel (listed.setIfInBounds i true) (bH g d v) ob) (hT:cN x.P ttab:=by exact aF) (hi:ops[i]? =some ⟨some d,op,ty,pos,af,gd⟩:=by rfl) (hst:mX ops late listed i=true:=by kernel_rfl) (hw:bI ops x.n g gd=some true:=by rfl) (h:vX ttab x.n g op=some (C,v):=by rfl) (hC:C:=by first | trivial | omega | (simp only[jJ];omega)):WD x ops Q late K fr true (fuel+1) listed g ob:=dtf i hT hi hst hw h hC k
theorem aK {t:Nat}{ti:TI}{a:Operand}{key off:Nat}(i:Nat) (k:WD x ops Q late K fr true fuel (listed.setIfInBounds i true) (bH g d v) ob) (hT:cN x.P ttab:=by exact aF) (hi:ops[i]? =some ⟨some d,.load t a,ty,pos,af,gd⟩:=by rfl) (hst:mX ops late listed i=true:=by kernel_rfl) (hw:bI ops x.n g gd=some true:=by rfl) (hti:cP ttab t=some ti:=by rfl) (hlk:lk x.n g a=.one (.pt key off):=by rfl) (hK:K.contains key=true:=by rfl) (h:tD ob ti (.one (.pt key off))=some (C,v):=by rfl):WD x ops Q late K fr true (fuel+1) listed g ob:=dl i hT hi hst hw hti hlk hK h k
theorem dD {t:Nat}{ti:TI}{a:Operand}{l:List Tr}{of:Nat}(i:Nat) (us:List Tr) (hl:(l.drop of).take us.length=us) (k:WD x ops Q late K fr true fuel (listed.setIfInBounds i true) (bH g d v) ob) (hT:cN x.P ttab:=by exact aF) (hi:ops[i]? =some ⟨some d,.load t a,ty,pos,af,gd⟩:=by rfl) (hst:mX ops late listed i=true:=by kernel_rfl) (hw:bI ops x.n g gd=some true:=by rfl) (hti:cP ttab t=some ti:=by rfl) (hlk:lk x.n (mW fr g) a=.one (.ef l of):=by rfl) (hv:Pi ti us=some v:=by rfl):WD x ops Q late K fr true (fuel+1) listed g ob:=dlf i hT hi hst hw hti hlk hl hv k
theorem aZ (i:Nat) (k:WD x ops Q late K fr true fuel (listed.setIfInBounds i true) (bH g d (.one (tv undef))) ob) (hi:ops[i]? =some ⟨some d,op,ty,pos,af,gd⟩:=by rfl) (hst:mX ops late listed i=true:=by kernel_rfl) (hw:bI ops x.n g gd=some false:=by rfl):WD x ops Q late K fr true (fuel+1) listed g ob:=dn i hi hst hw k
theorem aS {fresh:Bool}{f:FuncId}{args:List FV}{r:FV}{aa:Array Operand}{ats:Array TypeId}(i:Nat) (hi:ops[i]? =some ⟨some d,.call ⟨.value (.func f),aa,ats⟩,ty,pos,af,gd⟩) (hS:aE fresh x.P f [] args (aT r)) (hf:CallOk x.P f) (ha:AL fresh x g ob aa.toList args) (v:FV) (k:WD x ops Q late K (d::fr) true fuel (listed.setIfInBounds i true) (bH g d v) ob) (hr:Region.ready .any ops listed=[i]:=by kernel_rfl) (hw:bI ops x.n g gd=some true:=by rfl) (hv:zS r=v:=by rfl):WD x ops Q late K fr true (fuel+1) listed g ob:=TV i hr hi hw hS hf ha hv k
theorem fB {fresh:Bool}{f:FuncId}{args:List FV}{r:FV}{aa:Array Operand}{ats:Array TypeId}(i:Nat) (hi:ops[i]? =some ⟨some d,.call ⟨.value (.func f),aa,ats⟩,ty,pos,af,gd⟩) (hS:aE fresh x.P f [] args (aT r)) (hf:CallOk x.P f) (ha:AL fresh x g ob aa.toList args) (v:FV) (k:WD x ops Q late K (d::fr) true fuel (listed.setIfInBounds i true) (bH g d v) ob) (hw:bI ops x.n g gd=some true:=by rfl) (hv:zS r=v:=by rfl):WO x ops Q late K fr true fuel listed i g ob:=TW i hi hw hS hf ha hv k
theorem dst {t:Nat}{ti:TI}{a b:Operand}(i:Nat) (k:WD x ops Q late K fr false fuel (listed.setIfInBounds i true) g ob') (hT:cN x.P ttab:=by exact aF) (hr:Region.ready .any ops listed=[i]:=by kernel_rfl) (hi:ops[i]? =some ⟨none,.store t a b,ty,pos,af,gd⟩:=by rfl) (hw:bI ops x.n g gd=some true:=by rfl) (hti:cP ttab t=some ti:=by rfl) (h:zN ti ob (lk x.n g b) (lk x.n g a)=some ob':=by rfl) (hl:late i=true:=by rfl):WD x ops Q late K fr on (fuel+1) listed g ob:=aAr i hr hi hw hT hti h hl k
theorem iS {fresh:Bool}{f:FuncId}{args:List FV}{r:FV}{os:List Ob}{aa:Array Operand}{ats:Array TypeId}(key:Nat) (hS:aE fresh x.P f [] args (aT r)) (hf:CallOk x.P f) (ha:AL fresh x g ob aa.toList args) (k:WL x ops rest (bH g d v) (ob++os.map some) Q) (hw:bI ops x.n g gd=some true:=by rfl) (hk:eN ob key=true:=by rfl) (hb:kB key r=some (v,os):=by rfl):
  WL x ops (⟨some d,.call ⟨.value (.func f),aa,ats⟩,ty,pos,af,gd⟩::rest) g ob Q:=NZ hw hS hf ha hk hb k
theorem kS {fresh:Bool}{f:FuncId}{args:List FV}{r:FV}{os:List Ob}{aa:Array Operand}{ats:Array TypeId}(key i:Nat) (hi:ops[i]? =some ⟨some d,.call ⟨.value (.func f),aa,ats⟩,ty,pos,af,gd⟩) (hS:aE fresh x.P f [] args (aT r)) (hf:CallOk x.P f) (ha:AL fresh x g ob aa.toList args) (k:WD x ops Q late K (d::fr) true fuel (listed.setIfInBounds i true) (bH g d v) (ob++os.map some)) (hr:Region.ready .any ops listed=[i]:=by kernel_rfl) (hw:bI ops x.n g gd=some true:=by rfl) (hk:eN ob key=true:=by rfl) (hb:kB key r=some (v,os):=by rfl) (hK:JM K ob=true:=by rfl):WD x ops Q late K fr true (fuel+1) listed g ob:=OA i hr hi hw hS hf ha hk hb hK k
theorem aW (h:Q .normal g ob) (hr:Region.ready .any ops listed=[]:=by kernel_rfl):WD x ops Q late K fr on fuel listed g ob:=dz hr h
end
theorem bB {x:Cx}{g:Nat→FV}{ob:List (Option Ob)}{Q:Post}{ops:Array Oper}{rest:List Oper}{z:Int}(t m:Nat) (k:WL x ops rest (bH g t (.one (tv (.int .i64 (m:Int))))) ob Q) (ht:g t=.one (tv (.int .i64 z)):=by rfl) (e:z=(m:Int):=by omega):WL x ops rest g ob Q:=WL.cast ht (dO e) k
theorem vE {x:Cx}{g:Nat→FV}{ob:List (Option Ob)}{Q:Post}{ops:Array Oper}{late:Nat→Bool}{K fr:List Nat}{on:Bool}{fuel:Nat}{listed:Array Bool}{z:Int}(t m:Nat) (k:WD x ops Q late K fr on fuel listed (bH g t (.one (tv (.int .i64 (m:Int))))) ob) (ht:g t=.one (tv (.int .i64 z)):=by rfl) (e:z=(m:Int):=by omega):WD x ops Q late K fr on fuel listed g ob:=WD.cast ht (dO e) k
abbrev iN (n:Nat):FV:=.one (tv (.int .i64 (n:Int)))
abbrev pN (k:Nat):FV:=.one (.pt k 0)
theorem fZ {x:Cx}{g:Nat→FV}{ob ob':List (Option Ob)}{Q:Post}{ops:Array Oper}{late:Nat→Bool}{K fr:List Nat}{fuel:Nat}{listed:Array Bool}{d t:Nat}{ty:TypeId}{pos:String}{af:Array Edge}{gd:Option (Nat×Bool)}(key i:Nat) (k:WD x ops Q late K (d::fr) true fuel (listed.setIfInBounds i true) (bH g d (.one (.pt key 0))) ob') (hr:Region.ready .any ops listed=[i]:=by kernel_rfl) (hi:ops[i]? =some ⟨some d,.alloc t,ty,pos,af,gd⟩:=by rfl) (hw:bI ops x.n g gd=some true:=by rfl) (hT:cN x.P ttab:=by exact aF) (h:zM ttab t key ob=some ob':=by rfl) (hke:jA ob ob' K:=by repeat' first | exact trivial | refine⟨rfl,?_⟩):WD x ops Q late K fr true (fuel+1) listed g ob:=aAp i hr hi hw hT h hke k
theorem cQ {x:Cx}{g:Nat→FV}{ob ob':List (Option Ob)}{Q:Post}{ops:Array Oper}{late:Nat→Bool}{K fr:List Nat}{fuel:Nat}{listed:Array Bool}{d t:Nat}{ty:TypeId}{pos:String}{af:Array Edge}{gd:Option (Nat×Bool)}(key i:Nat) (k:WD x ops Q late K (d::fr) true fuel (listed.setIfInBounds i true) (bH g d (.one (.pt key 0))) ob') (hi:ops[i]? =some ⟨some d,.alloc t,ty,pos,af,gd⟩:=by rfl) (hw:bI ops x.n g gd=some true:=by rfl) (hT:cN x.P ttab:=by exact aF) (h:zM ttab t key ob=some ob':=by rfl) (hke:jA ob ob' K:=by repeat' first | exact trivial | refine⟨rfl,?_⟩):WO x ops Q late K fr true fuel listed i g ob:=aAq i hi hw hT h hke k
theorem dC {x:Cx}{g:Nat→FV}{ob:List (Option Ob)}{ob':List (Option Ob)}{Q:Post}{ops:Array Oper}{late:Nat→Bool}{K:List Nat}{fr:List Nat}{fuel:Nat}{listed:Array Bool}{t:Nat}{ty:TypeId}{pos:String}{af:Array Edge}{gd:Option (Nat×Bool)}{key o:Nat}{ti:TI}{a b:Operand}(i:Nat) (k:WD x ops Q late K fr true fuel (listed.setIfInBounds i true) g ob') (hr:Region.ready .any ops listed=[i]:=by kernel_rfl) (hi:ops[i]? =some ⟨none,.store t a b,ty,pos,af,gd⟩:=by rfl) (hw:bI ops x.n g gd=some true:=by rfl) (hT:cN x.P ttab:=by exact aF) (hti:cP ttab t=some ti:=by rfl) (h:zN ti ob (lk x.n g b) (lk x.n g a)=some ob':=by rfl) (hlk:lk x.n g a=.one (.pt key o):=by rfl) (hK:K.contains key=false:=by rfl) (hke:jA ob ob' K:=by repeat' first | exact trivial | refine⟨rfl,?_⟩):WD x ops Q late K fr true (fuel+1) listed g ob:=XJ i hr hi hw hT hti h hlk hK hke k
theorem dI {x:Cx}{g:Nat→FV}{ob:List (Option Ob)}{Q:Post}{ops:Array Oper}{late:Nat→Bool}{K:List Nat}{fr:List Nat}{fuel:Nat}{listed:Array Bool}{d:Nat}{ty:TypeId}{pos:String}{af:Array Edge}{gd:Option (Nat×Bool)}{op:Op}{on:Bool}{C:Prop}{v:FV}(i:Nat) (k:WD x ops Q late K (d::fr) on fuel (listed.setIfInBounds i true) (bH g d v) ob) (hr:Region.ready .any ops listed=[i]:=by kernel_rfl) (hi:ops[i]? =some ⟨some d,op,ty,pos,af,gd⟩:=by rfl) (hw:bI ops x.n g gd=some true:=by rfl) (hT:cN x.P ttab:=by exact aF) (h:vX ttab x.n g op=some (C,v):=by rfl) (hC:C:=by trivial) (hl:late i=false→on=true:=by intro h;first | rfl | cases h):WD x ops Q late K fr on (fuel+1) listed g ob:=d_v i hr hi hw hT h hC k hl
theorem eR {x:Cx}{g:Nat→FV}{ob:List (Option Ob)}{Q:Post}{ops:Array Oper}{late:Nat→Bool}{K:List Nat}{fr:List Nat}{fuel:Nat}{listed:Array Bool}{on:Bool}(i j:Nat) (h:WO x ops Q late K fr on fuel listed i g ob) (h':WO x ops Q late K fr on fuel listed j g ob) (hr:Region.ready .any ops listed=[i,j]:=by kernel_rfl):WD x ops Q late K fr on (fuel+1) listed g ob:=WO.two hr h h'
theorem Ky {x:Cx}{g:Nat→FV}{ob:List (Option Ob)}{Q:Post}{ops:Array Oper}{late:Nat→Bool}{K:List Nat}{fr:List Nat}{fuel:Nat}{listed:Array Bool}{on:Bool}(i j m:Nat) (h:WO x ops Q late K fr on fuel listed i g ob) (h':WO x ops Q late K fr on fuel listed j g ob) (h3:WO x ops Q late K fr on fuel listed m g ob) (hr:Region.ready .any ops listed=[i,j,m]:=by kernel_rfl):WD x ops Q late K fr on (fuel+1) listed g ob:=WO.three hr h h' h3
theorem cI {x:Cx}{g:Nat→FV}{ob:List (Option Ob)}{Q:Post}{id:Nat}{l:List Oper}(K L:List Nat) (h:WD x l.toArray Q (fun i=>L.contains i) K [] true l.toArray.size (Array.replicate l.toArray.size false) g ob) (hm:x.P.follows .mixedOrders=true:=by exact mixed):WP x (.region id l.toArray true) g ob Q:=rd K (fun i=>L.contains i) hm h
theorem BM {β:Type}:∀{o:Nat}{l:List AV}{a:AV}{r:List AV}{k:List AV→Option β},l.drop o=a::r→dp o l k=k (a::r)
 | 0,l,a,r,k,h=>by rw[List.drop_zero]at h;subst h;rfl
 | o+1,[],a,r,k,h=>by simp at h
 | o+1,b::l,a,r,k,h=>by
  rw[List.drop_succ_cons]at h
  exact BM (o:=o) h
theorem BN {ob:List (Option Ob)}{i:TI}{k o t z:Nat}{l:List AV}{a:AV}(ho:cT ob k=some ⟨t,z,l⟩) (hx:l[o]? =some a) (ha:i.agg=false) (hr:rA a=true):tD ob i (.one (.pt k o))=some (True,.one a):=by
 obtain⟨h1,h2⟩:=List.getElem?_eq_some_iff.1 hx
 have h3:l.drop o=a::l.drop (o+1):=by rw[List.drop_eq_getElem_cons h1,h2]
 unfold tD
 dsimp only
 rw[ho]
 dsimp only
 unfold HK
 rw[BM h3,ha]
 simp[Ik,gU,hr,ev]
section
variable {x:Cx}{g:Nat→FV}{ob ob':List (Option Ob)}{Q:Post}{ops:Array Oper}{rest:List Oper}{d:Nat}{ty:TypeId}{pos:String}{af:Array Edge}{gd:Option (Nat×Bool)}{T:List (Nat×TI)}
theorem YJ {t e by_ k m:Nat}{ti:Bool}{ts0:Nat}{z0:List Value}{kk k1 k2:IntKind}{a b:Operand}(hT:cN x.P T) (ht:cP T t=some ⟨ti,ts0,z0,.sl e 1 by_ (.int kk 0)⟩) (ha:lk x.n g a=.one (tv (.int k1 (m:Int)))) (hb:lk x.n g b=.one (tv (.int k2 (m:Int)))) (hby:by_≤16) (hm:m≤8796093022208) (hk:eN ob k=true):
  OS x ⟨some d,.makeSlice t a b,ty,pos,af,gd⟩ g ob [] (fun g' ob2=>g'=bH g d (.one (.sl k 0 m))∧ob2=ob++[some ⟨e,1,(List.replicate m (Value.int kk 0)).map tv⟩]):=by
 obtain⟨_,hel⟩:=(eY hT ht).2.2.2
 obtain⟨hu,i,hi,hz,hsize,hby',hzs,hsz⟩:=hel
 subst hby'
 have hk:=Nat.eq_of_beq_eq_true hk
 subst hk
 intro cs ts W hR K Q' kk'
 have e1:=hR.lk a
 rw[ha]at e1
 have e1:=bK e1
 have e2:=hR.lk b
 rw[hb]at e2
 have e2:=bK e2
 have hmul:i.bytes*m≤16*8796093022208:=Nat.mul_le_mul hby hm
 obtain⟨w',hrun,h1,h2⟩:=run_make_full (P:=x.P) W 0 t e i (.int kk 0) 1 hu hi hz hsize k1 k2 m (by omega) (by unfold maxLen;omega) (Nat.zero_le _)
 have hrun':(execOp (Act.eval ⟨ts,[]⟩) ⟨some d,.makeSlice t a b,ty,pos,af,gd⟩).run x.P W=.ok (.value (.slice (some ⟨W.heap.size,0,none⟩) m m)) w':=by
  simp[execOp,e1,e2,hrun]
 have e0:(madeCells (Value.int kk 0).cells (m*1)).toList=List.replicate m (.int kk 0):=by
  rw[Nat.mul_one]
  show(madeCells #[Value.int kk 0] m).toList=_
  rw[toList_madeCells_one]
 rw[e0]at h1
 generalize hus:List.replicate m (Value.int kk 0)=us at h1 kk'
 have hbl:Below W.heap.size W w':=(Below.refl _ _).grown h2 (bC _) (fun k hk=>by cases hk)
 rcases h1.2 with⟨hh,_⟩ | ⟨g1,cap,cur,hv,_,hg,hnc,hcm,hcs,htake⟩
 ·injection hh with h3;cases h3
 injection hv with q1 q2 q3
 injection q1 with q1
 injection q1 with q1
 subst q1 q3
 have hlt:W.heap.size<w'.heap.size:=(Array.getElem?_eq_some_iff.1 hg).1
 have hcur:cur.toList=us:=by
  have h9:cur.toList.length=m*1:=by simpa using hcs
  rw[←htake,fF (by omega)]
 have hS:∀b∈(aR (some ⟨e,1,us.map tv⟩) ⟨some W.heap.size,m,us.map .w⟩).S,W.heap.size≤b∧b<w'.heap.size:=by
  intro b hb
  simp[aR,pB]at hb
  subst hb
  exact⟨bC _,hlt⟩
 have hown:∀b∈eK (ob++[some ⟨e,1,us.map tv⟩]) (cs++[⟨some W.heap.size,m,us.map .w⟩]),b∈eK ob cs∨W.heap.size≤b:=by
  intro b hb
  unfold eK aQ at hb
  rw[List.zipWith_append hR.len,List.flatMap_append,List.mem_append]at hb
  rcases hb with hb | hb
  ·exact .inl hb
  exact .inr (hS b (by simpa using hb)).1
 have m1:RelC x g (ob++[some ⟨e,1,us.map tv⟩]) (cs++[⟨some W.heap.size,m,us.map .w⟩]) ts w':=by
  refine hR.push hbl _ _ ?_ hS (by simp[aR,pB]) ?_ (fun e=>by cases e)
  ·have hul:us.length=m:=by rw[←hus,List.length_replicate]
   simp only[aR,xS]
   refine⟨⟨[],?_,by simp[hul]⟩,xQ _,hcm⟩
   rw[List.append_nil,hg,←hcur]
  exact wA (qY _) (Fo _)
 refine iL hrun' (kk' _ _ _ _ _ ⟨rfl,rfl⟩ (m1.put d ?_) ((Aft.mk .app (fun k _ hk=>oZ hk) hbl.size (fun b hlt _=>hbl.block b hlt) hown (fun _ _=>rfl):Aft [] (some d) ob cs ts W _ _ ts w').then_put _))
 refine jI ?_
 simp only[AR]
 rw[hR.len,iV]
 exact⟨by simp[hR.len],0,m,rfl,bC _,hcm,fun _=>rfl,fun _=>rfl⟩
inductive FzN (key:Nat):List AV→List AV→Prop
 | nil:FzN key [] []
 | id {a:AV}{l l':List AV}(h:FzN key l l'):FzN key (a::l) (a::l')
 | sl {l l':List AV}(h:FzN key l l'):FzN key (tv (.slice none 0 0)::l) (.sl key 0 0::l')
theorem FzN.ok {key:Nat}{W:World}{N:Nat→Prop}{cs:List Co}(hk:key<cs.length) (hb:(co cs key).b=none):∀{l l':List AV},FzN key l l'→∀{ys:List VT},bU W N cs l ys→bU W N cs l' ys
 | _,_,.nil,ys,h=>h
 | _,_,.id h',[],h=>by simp only[bU]at h
 | _,_,.id h',y::ys,h=>by
  simp only[bU]at h⊢
  exact⟨h.1,FzN.ok hk hb h' h.2⟩
 | _,_,.sl h',[],h=>by simp only[bU]at h
 | _,_,.sl h',y::ys,h=>by
  simp only[bU]at h⊢
  refine⟨?_,FzN.ok hk hb h' h.2⟩
  have h1:=h.1
  simp only[tv,CR,OR]at h1
  subst h1
  simp only[CR,AR,hb]
  exact⟨hk,trivial,trivial,trivial⟩
theorem FzN.nl {key:Nat}:∀{l l':List AV},FzN key l l'→(l=[]↔l'=[])
 | _,_,.nil=>Iff.rfl
 | _,_,.id h'=>by simp
 | _,_,.sl h'=>by simp
theorem sT {j key e z t' z':Nat}{l l':List AV}(hz:Nat.beq z 0=false) (hk:eN ob key=true) (ho:cT ob j=some ⟨t',z',l⟩) (hl:FzN key l l'):Sub x g ob g (ob.set j (some ⟨t',z',l'⟩)++[some ⟨e,z,[]⟩]):=by
 rintro ts W ⟨cs,hR⟩
 have hk:=Nat.eq_of_beq_eq_true hk
 have hj:=dM ho
 have hz0:z≠0:=fun e=>by subst e;simp at hz
 have hlt:=(List.getElem?_eq_some_iff.1 hj).1
 have m1:=hR.push (Below.refl _ _) ⟨e,z,[]⟩ ⟨none,0,[]⟩ (by simp[aR]) (by simp[aR]) (by simp[aR]) (by simp[bU]) (fun _=>⟨rfl,hz0⟩)
 have hj':(ob++[some ⟨e,z,[]⟩])[j]? =some (some ⟨t',z',l⟩):=by rw[List.getElem?_append_left hlt];exact hj
 have hb0:(co (cs++[⟨none,0,[]⟩]) key).b=none:=by rw[←hk,hR.len,iV]
 have hkl:key<(cs++[(⟨none,0,[]⟩:Co)]).length:=by rw[←hk,hR.len];simp
 have hm:=m1.obs.2 j _ hj'
 have hup:=m1.upd hj' ⟨t',z',l'⟩ (co (cs++[⟨none,0,[]⟩]) j) (Chg.refl _ _) rfl rfl (by rw[rC l' l];exact m1.res hj') (fun b hb=>.inl (by rw[rC l l'];exact hb)) (by rw[rC l' l];exact m1.2.nd1 (List.mem_of_getElem? (cJ m1.len hj')))
  (fun h1 h2 h3=>by
   have h4:bU W (x.fr W (ob++[some ⟨e,z,[]⟩]) (cs++[⟨none,0,[]⟩])) (cs++[⟨none,0,[]⟩]) l' (co (cs++[⟨none,0,[]⟩]) j).l:=hl.ok hkl hb0 hm.1
   exact dN (fun _ _=>rfl) h2 h3 _ _ h4) (fun hb=>by
   have:=hm.2 hb
   exact⟨hl.nl.1 this.1,this.2⟩)
 have e1:(ob++[some (⟨e,z,[]⟩:Ob)]).set j (some ⟨t',z',l'⟩)=ob.set j (some ⟨t',z',l'⟩)++[some ⟨e,z,[]⟩]:=List.set_append_left _ _ hlt
 rw[e1]at hup
 exact⟨_,hup.1⟩
theorem mk {t e by_ m:Nat}{ti:Bool}{ts0:Nat}{z0:List Value}{kk k1 k2:IntKind}{a b:Operand}(key:Nat) (hm:m≤8796093022208){l:List AV}(hl:(List.replicate m (Value.int kk 0)).map tv=l) (k:WL x ops rest (bH g d (.one (.sl key 0 m))) (ob++[some ⟨e,1,l⟩]) Q) (hT:cN x.P ttab:=by exact aF) (hw:bI ops x.n g gd=some true:=by rfl)
  (ht:cP ttab t=some ⟨ti,ts0,z0,.sl e 1 by_ (.int kk 0)⟩:=by rfl) (ha:lk x.n g a=.one (tv (.int k1 (m:Int))):=by rfl) (hb:lk x.n g b=.one (tv (.int k2 (m:Int))):=by rfl) (hby:by_≤16:=by decide) (hk:eN ob key=true:=by rfl):WL x ops (⟨some d,.makeSlice t a b,ty,pos,af,gd⟩::rest) g ob Q:=by
 subst hl
 exact jT (YJ hT ht ha hb hby hm hk) hw (by rintro _ _ ⟨rfl,rfl⟩;exact k)
theorem Cj {t key o t' z':Nat}{ti:TI}{a:Operand}{l:List AV}{v:AV}(hx:l[o]? =some v) (k:WL x ops rest (bH g d (.one v)) ob Q) (hT:cN x.P ttab:=by exact aF) (hw:bI ops x.n g gd=some true:=by rfl) (hti:cP ttab t=some ti:=by rfl) (hlk:lk x.n g a=.one (.pt key o):=by rfl) (ho:cT ob key=some ⟨t',z',l⟩:=by rfl) (ha:ti.agg=false:=by rfl) (hr:rA v=true:=by rfl):
  WL x ops (⟨some d,.load t a,ty,pos,af,gd⟩::rest) g ob Q:=HR hT hw hti (by rw[hlk];exact BN ho hx ha hr) k
theorem tU {t key o t' z':Nat}{ti:TI}{a b:Operand}{l l' us:List AV}(hl:eT l o us=l') (hle:o+us.length≤l.length) (k:WL x ops rest g (ob.set key (some ⟨t',z',l'⟩)) Q) (hT:cN x.P ttab:=by exact aF) (hw:bI ops x.n g gd=some true:=by rfl) (hti:cP ttab t=some ti:=by rfl) (hlk:lk x.n g a=.one (.pt key o):=by rfl) (ho:cT ob key=some ⟨t',z',l⟩:=by rfl)
  (hb:zL (lk x.n g b)=some us:=by rfl) (hlo:fJ us=true:=by rfl) (hsz:Nat.beq us.length ti.size=true:=by rfl):WL x ops (⟨none,.store t a b,ty,pos,af,gd⟩::rest) g ob Q:=
 jT (Fq hT hti hlk hb hlo hsz ho hle hl) hw (by rintro _ _ ⟨rfl,rfl⟩;exact k)
variable {late:Nat→Bool}{K fr:List Nat}{on:Bool}{fuel:Nat}{listed:Array Bool}
theorem Oe {t key o t' z':Nat}{ti:TI}{a:Operand}{l:List AV}{v:AV}(i:Nat) (hx:l[o]? =some v) (k:WD x ops Q late K fr true fuel (listed.setIfInBounds i true) (bH g d (.one v)) ob) (hT:cN x.P ttab:=by exact aF) (hi:ops[i]? =some ⟨some d,.load t a,ty,pos,af,gd⟩:=by rfl) (hst:mX ops late listed i=true:=by kernel_rfl) (hw:bI ops x.n g gd=some true:=by rfl) (hti:cP ttab t=some ti:=by rfl)
  (hlk:lk x.n g a=.one (.pt key o):=by rfl) (hK:K.contains key=true:=by rfl) (ho:cT ob key=some ⟨t',z',l⟩:=by rfl) (ha:ti.agg=false:=by rfl) (hr:rA v=true:=by rfl):WD x ops Q late K fr true (fuel+1) listed g ob:=dl i hT hi hst hw hti hlk hK (BN ho hx ha hr) k
theorem uP {t key o t' z':Nat}{ti:TI}{a b:Operand}{l l' us:List AV}(i:Nat) (hl:eT l o us=l') (hle:o+us.length≤l.length) (k:WD x ops Q late K fr false fuel (listed.setIfInBounds i true) g (ob.set key (some ⟨t',z',l'⟩))) (hT:cN x.P ttab:=by exact aF) (hr:Region.ready .any ops listed=[i]:=by kernel_rfl) (hi:ops[i]? =some ⟨none,.store t a b,ty,pos,af,gd⟩:=by rfl) (hw:bI ops x.n g gd=some true:=by rfl) (hti:cP ttab t=some ti:=by rfl)
  (hlk:lk x.n g a=.one (.pt key o):=by rfl) (ho:cT ob key=some ⟨t',z',l⟩:=by rfl) (hb:zL (lk x.n g b)=some us:=by rfl) (hlo:fJ us=true:=by rfl) (hsz:Nat.beq us.length ti.size=true:=by rfl) (hlate:late i=true:=by rfl):WD x ops Q late K fr on (fuel+1) listed g ob:=by
 refine Kn i hr hi hw (Fq (ty:=ty) (pos:=pos) (af:=af) (gd:=gd) hT hti hlk hb hlo hsz ho hle hl) false (fun h=>by cases h) (fun h=>by rw[hlate]at h;cases h) (fun h=>by cases h) fun g' ob' hR=>?_
 obtain⟨rfl,rfl⟩:=hR
 exact k
end
theorem Loc.cut {M:List Nat}{w W:World}{L L':List Res}{F:List Sh}(h:Loc M w W L F) (hc:∀b,(L'.flatMap Res.S).count b≤(L.flatMap Res.S).count b) (hφ:∀r∈L',r.φ W):Loc M w W L' F:=by
 have hin:∀b,b∈L'.flatMap Res.S→b∈L.flatMap Res.S:=fun b hb=>List.count_pos_iff.1 (Nat.lt_of_lt_of_le (List.count_pos_iff.2 hb) (hc b))
 exact⟨h.chg,hφ,fun b hb=>h.blk b (hin b hb),List.nodup_iff_count.2 fun b=>Nat.le_trans (hc b) (List.nodup_iff_count.1 h.nd b),fun q hq=>q.mono _ _ _ (fun b hb=>⟨hb.1,fun hm=>hb.2 (hin b hm)⟩) (h.shr q hq)⟩
theorem Iy {y y':VT}(b:Nat):∀{l:List VT}{p:Nat},l[p]? =some y→(VT.fpL (l.set p y')).count b+y.fp.count b=(VT.fpL l).count b+y'.fp.count b
 | [],_,h=>by simp at h
 | z::l,0,h=>by
  simp at h
  subst h
  simp only[List.set_cons_zero,VT.fpL,List.count_append]
  omega
 | z::l,p+1,h=>by
  have:=Iy (y':=y') b (l:=l) (p:=p) (by simpa using h)
  simp only[List.set_cons_succ,VT.fpL,List.count_append]
  omega
theorem Iz {W:World}{y':VT}(hy:y'.ok W):∀{l:List VT}{p:Nat},VT.okL W l→VT.okL W (l.set p y')
 | [],_,h=>by simpa using h
 | z::l,0,h=>by
  simp only[VT.okL]at h
  simp only[List.set_cons_zero,VT.okL]
  exact⟨hy,h.2⟩
 | z::l,p+1,h=>by
  simp only[VT.okL]at h
  simp only[List.set_cons_succ,VT.okL]
  exact⟨h.1,Iz hy h.2⟩
theorem Vc {y y':VT}(hv:y'.val=y.val){l:List VT}{p:Nat}(h:l[p]? =some y):(l.set p y').map VT.val=l.map VT.val:=by
 rw[List.map_set,hv]
 apply List.ext_getElem?
 intro j
 rw[List.getElem?_set]
 split
 ·rename_i e
  subst e
  obtain⟨h1,h2⟩:=List.getElem?_eq_some_iff.1 h
  simp[h1,h2]
 rfl
theorem Ja {W:World}{N:Nat→Prop}{cs:List Co}{a:AV}{y:VT}(ha:CR W N cs a y):∀{l:List AV}{ys:List VT}{p:Nat},bU W N cs l ys→bU W N cs (l.set p a) (ys.set p y)
 | [],ys,p,h=>by
  simp only[bU]at h
  subst h
  simp[bU]
 | b::l,[],p,h=>by simp only[bU]at h
 | b::l,z::ys,0,h=>by
  simp only[bU]at h
  simp only[List.set_cons_zero,bU]
  exact⟨ha,h.2⟩
 | b::l,z::ys,p+1,h=>by
  simp only[bU]at h
  simp only[List.set_cons_succ,bU]
  exact⟨h.1,Ja ha h.2⟩
section
variable {x:Cx}{g g':Nat→FV}{ob ob':List (Option Ob)}{cs cs':List Co}{ts ts':Array Value}{W W':World}{T:List (Nat×TI)}{Q:Post}{ops:Array Oper}{rest:List Oper}
theorem Same.set {k:Nat}{c:Co}(hk:k<cs.length) (hb:c.b=(co cs k).b) (hc:c.c=(co cs k).c):Same cs (cs.set k c):=⟨by simp,fun j hj=>by
 rw[nG hk]
 split
 ·rename_i e
  subst e
  exact⟨hb,hc⟩
 exact⟨rfl,rfl⟩⟩
theorem UC {j key p t' z':Nat}{l l':List AV}{q:Tr}{a':AV}{o:Ob}(hk:eN ob key=true) (hb9:xV key (.t q)=some (a',[o])) (hcr:∀{W:World}{N:Nat→Prop}{cs:List Co}{u:Value},AR W N cs a' u→CR W N cs a' (.w u)) (ho:cT ob j=some ⟨t',z',l⟩) (hp:l[p]? =some (.t q)) (hl:l.set p a'=l'):Sub x g ob g (ob.set j (some ⟨t',z',l'⟩)++[some o]):=by
 subst hl
 rintro ts W ⟨cs,hR⟩
 have hk:=Nat.eq_of_beq_eq_true hk
 have hj:=dM ho
 have hcl:=hR.crl hj
 obtain⟨y,hy,hr⟩:=wF hcl hp
 have hlt:=(List.getElem?_eq_some_iff.1 hj).1
 have hlen:=hR.len
 have hjl:j<cs.length:=by omega
 cases hbj:(co cs j).b with
 | none=>
  have:=((hR.obs.2 j _ hj).2 hbj).1
  dsimp only at this
  subst this
  simp at hp
 | some bj=>
  obtain⟨⟨rs,k1,k1l⟩,k2,k3⟩:=hR.blk hj hbj
  have hyok:=It k2 hy
  rcases Br (k:=key) (a:=.t q) (a':=a') (os:=[o]) (N:=x.fr W ob cs) (by simpa only[CR]using hr) hyok hb9 with⟨h0,_⟩ | ⟨o1,h0,hS,hφ,hA,hnone⟩
  ·cases h0
  injection h0 with h0
  subst h0
  have hval:(VT.w y.val).val=y.val:=rfl
  have hsame1:=Same.set (c:=⟨(co cs j).b,(co cs j).c,(co cs j).l.set p (.w y.val)⟩) hjl rfl rfl
  have hsame:Same cs (cs.set j ⟨(co cs j).b,(co cs j).c,(co cs j).l.set p (.w y.val)⟩++[kK y]):=hsame1.trans .app
  have hcok:co (cs.set j ⟨(co cs j).b,(co cs j).c,(co cs j).l.set p (.w y.val)⟩++[kK y]) key=kK y:=by
   have:=iV (cs:=cs.set j ⟨(co cs j).b,(co cs j).c,(co cs j).l.set p (.w y.val)⟩) (c:=kK y)
   rwa[List.length_set,←hlen,hk]at this
  have hcoj:co (cs.set j ⟨(co cs j).b,(co cs j).c,(co cs j).l.set p (.w y.val)⟩++[kK y]) j=⟨(co cs j).b,(co cs j).c,(co cs j).l.set p (.w y.val)⟩:=by
   rw[oZ (by simpa using hjl),nG hjl,if_pos rfl]
  have hrs:aQ (ob.set j (some ⟨t',z',l.set p a'⟩)++[some o]) (cs.set j ⟨(co cs j).b,(co cs j).c,(co cs j).l.set p (.w y.val)⟩++[kK y])=(aQ ob cs).set j (aR (some ⟨t',z',l.set p a'⟩) ⟨(co cs j).b,(co cs j).c,(co cs j).l.set p (.w y.val)⟩)++[aR (some o) (kK y)]:=by
   rw[←lC]
   unfold aQ
   rw[List.zipWith_append (by simpa using hlen)]
   rfl
  have m:=hR.recut (ob':=ob.set j (some ⟨t',z',l.set p a'⟩)++[some o]) (cs':=cs.set j ⟨(co cs j).b,(co cs j).c,(co cs j).l.set p (.w y.val)⟩++[kK y]) (fun b=>by
   have h1:=sE (r':=aR (some ⟨t',z',l.set p a'⟩) ⟨(co cs j).b,(co cs j).c,(co cs j).l.set p (.w y.val)⟩) (cJ hlen hj) b
   have h2:=Iy (y':=.w y.val) b hy
   have h3:(aR (some ⟨t',z',l⟩) (co cs j)).S=bj::VT.fpL (co cs j).l:=by simp[aR,hbj]
   have h4:(aR (some ⟨t',z',l.set p a'⟩) ⟨(co cs j).b,(co cs j).c,(co cs j).l.set p (.w y.val)⟩).S=bj::VT.fpL ((co cs j).l.set p (.w y.val)):=by simp[aR,hbj]
   have h5:(VT.w y.val).fp=[]:=rfl
   rw[h3,h4,List.count_cons,List.count_cons]at h1
   rw[h5,List.count_nil]at h2
   unfold eK
   rw[hrs,List.flatMap_append,List.count_append,List.flatMap_cons,List.flatMap_nil,List.append_nil,hS]
   omega) (fun r hr'=>by
   rw[hrs]at hr'
   rcases List.mem_append.1 hr' with hr' | hr'
   ·rcases List.mem_or_eq_of_mem_set hr' with hr' | rfl
    ·exact hR.2.res r hr'
    simp only[aR,hbj]
    rw[Vc hval hy]
    exact⟨⟨rs,k1,by rw[k1l];simp⟩,Iz (by simp[VT.ok]) k2,k3⟩
   ·simp at hr'
    subst hr'
    exact hφ) (fun hN=>by
   refine⟨by simp[hlen],fun i o9 hi=>?_⟩
   obtain⟨q1,q2⟩:=hA _ _ hN (by simp;omega) hcok
   rcases Nat.lt_or_ge i ob.length with hil | hil
   ·rw[List.getElem?_append_left (by simpa using hil)]at hi
    by_cases hij:j=i
    ·subst hij
     rw[List.getElem?_set_self hlt]at hi
     injection hi with hi
     injection hi with hi
     subst hi
     rw[hcoj]
     refine⟨Ja (hcr q1) (dN (fun _ _=>rfl) hN hsame _ _ hcl),fun h=>?_⟩
     rw[hbj]at h
     cases h
    rw[List.getElem?_set_ne hij]at hi
    have h1:=hR.obs.2 i o9 hi
    rw[oZ (by simp;omega),nG hjl,if_neg (fun h=>hij h.symm)]
    exact⟨dN (fun _ _=>rfl) hN hsame _ _ h1.1,h1.2⟩
   have e1:i=key:=by
    have:=(List.getElem?_eq_some_iff.1 hi).1
    simp at this
    omega
   subst e1
   rw[List.getElem?_append_right (by simp;omega)]at hi
   simp[hk]at hi
   subst hi
   rw[hcok]
   exact⟨q2,hnone⟩) hsame
  exact⟨_,m.1⟩
theorem oU {j key p e z n t' z':Nat}{l l':List AV}{trs:List Tr}(hk:eN ob key=true) (hz:Nat.beq z 0=false) (ho:cT ob j=some ⟨t',z',l⟩) (hp:l[p]? =some (.t (.s true e z n trs))) (hl:l.set p (.sl key 0 n)=l'):Sub x g ob g (ob.set j (some ⟨t',z',l'⟩)++[some ⟨e,z,trs.map .t⟩]):=
 UC hk (by simp[xV,hz]) (fun h=>by simpa only[CR]using h) ho hp hl
theorem Pc {j key p e t' z':Nat}{l l':List AV}{trs:List Tr}(hk:eN ob key=true) (ho:cT ob j=some ⟨t',z',l⟩) (hp:l[p]? =some (.t (.p true e trs))) (hl:l.set p (.pt key 0)=l'):Sub x g ob g (ob.set j (some ⟨t',z',l'⟩)++[some ⟨e,0,trs.map .t⟩]):=
 UC hk (by simp[xV]) (fun h=>by simpa only[CR]using h) ho hp hl
theorem UD {j k p t' z':Nat}{l l':List AV}{a0:AV}{o:Ob}{q:Tr}(hne:Nat.beq j k=false) (ho:cT ob j=some ⟨t',z',l⟩) (hok:cT ob k=some o) (hp:l[p]? =some a0) (hcr:∀{W:World}{N:Nat→Prop}{cs:List Co}{y:VT},CR W N cs a0 y→∃u,y=.w u∧AR W N cs a0 u) (H:∀{cs:List Co}{ts:Array Value}{W:World}{u:Value},RelC x g ob cs ts W→AR W (x.fr W ob cs) cs a0 u→∃y':VT,y'.val=u∧OR W (x.fr W ob cs) q y'∧y'.ok W∧∀b,y'.fp.count b≤(aR (some o) (co cs k)).S.count b) (hl:l.set p (.t q)=l'):Sub x g ob g ((ob.set j (some ⟨t',z',l'⟩)).set k none):=by
 subst hl
 rintro ts W ⟨cs,hR⟩
 have hjk:j≠k:=fun h=>by subst h;simp at hne
 have hj:=dM ho
 have hkk:=dM hok
 have hcl:=hR.crl hj
 obtain⟨y,hy,hr⟩:=wF hcl hp
 have hlt:=(List.getElem?_eq_some_iff.1 hj).1
 have hkt:=(List.getElem?_eq_some_iff.1 hkk).1
 have hlen:=hR.len
 have hjl:j<cs.length:=by omega
 have hkl:k<cs.length:=by omega
 obtain⟨u,hy9,hr9⟩:=hcr hr
 subst hy9
 obtain⟨y',hv,hor,hyok,hfp⟩:=H hR hr9
 cases hbj:(co cs j).b with
 | none=>
  have:=((hR.obs.2 j _ hj).2 hbj).1
  dsimp only at this
  subst this
  simp at hp
 | some bj=>
  obtain⟨⟨rs,k1,k1l⟩,k2,k3⟩:=hR.blk hj hbj
  have hsame:=Same.set (c:=⟨(co cs j).b,(co cs j).c,(co cs j).l.set p y'⟩) hjl rfl rfl
  have hcoj:co (cs.set j ⟨(co cs j).b,(co cs j).c,(co cs j).l.set p y'⟩) j=⟨(co cs j).b,(co cs j).c,(co cs j).l.set p y'⟩:=by rw[nG hjl,if_pos rfl]
  have hcok:co (cs.set j ⟨(co cs j).b,(co cs j).c,(co cs j).l.set p y'⟩) k=co cs k:=by rw[nG hjl,if_neg (fun h=>hjk h.symm)]
  have hkl2:k<(cs.set j ⟨(co cs j).b,(co cs j).c,(co cs j).l.set p y'⟩).length:=by simpa using hkl
  have hrs:aQ ((ob.set j (some ⟨t',z',l.set p (.t q)⟩)).set k none) (cs.set j ⟨(co cs j).b,(co cs j).c,(co cs j).l.set p y'⟩)=((aQ ob cs).set j (aR (some ⟨t',z',l.set p (.t q)⟩) ⟨(co cs j).b,(co cs j).c,(co cs j).l.set p y'⟩)).set k (aR none (co cs k)):=by
   rw[←lC,←lC]
   congr 1
   rw[←hcok]
   exact(wC hkl2).symm
  have hk2:((aQ ob cs).set j (aR (some ⟨t',z',l.set p (.t q)⟩) ⟨(co cs j).b,(co cs j).c,(co cs j).l.set p y'⟩))[k]? =some (aR (some o) (co cs k)):=by
   rw[List.getElem?_set_ne hjk]
   exact cJ hlen hkk
  have m:=hR.recut (ob':=(ob.set j (some ⟨t',z',l.set p (.t q)⟩)).set k none) (cs':=cs.set j ⟨(co cs j).b,(co cs j).c,(co cs j).l.set p y'⟩) (fun b=>by
   have h1:=sE (r':=aR (some ⟨t',z',l.set p (.t q)⟩) ⟨(co cs j).b,(co cs j).c,(co cs j).l.set p y'⟩) (cJ hlen hj) b
   have h6:=sE (r':=aR none (co cs k)) hk2 b
   have h2:=Iy (y':=y') b hy
   have h3:(aR (some ⟨t',z',l⟩) (co cs j)).S=bj::VT.fpL (co cs j).l:=by simp[aR,hbj]
   have h4:(aR (some ⟨t',z',l.set p (.t q)⟩) ⟨(co cs j).b,(co cs j).c,(co cs j).l.set p y'⟩).S=bj::VT.fpL ((co cs j).l.set p y'):=by simp[aR,hbj]
   have h5:(VT.w u).fp=[]:=rfl
   have h7:(aR none (co cs k)).S=[]:=by cases hb:(co cs k).b <;> simp[aR]
   have h8:=hfp b
   rw[h3,h4,List.count_cons,List.count_cons]at h1
   rw[h5,List.count_nil]at h2
   rw[h7,List.count_nil]at h6
   unfold eK
   rw[hrs]
   omega) (fun r hr'=>by
   rw[hrs]at hr'
   rcases List.mem_or_eq_of_mem_set hr' with hr' | rfl
   ·rcases List.mem_or_eq_of_mem_set hr' with hr' | rfl
    ·exact hR.2.res r hr'
    simp only[aR,hbj]
    rw[Vc (hv.trans rfl) hy]
    exact⟨⟨rs,k1,by rw[k1l];simp⟩,Iz hyok k2,k3⟩
   ·cases hb:(co cs k).b <;> simp[aR]) (fun hN=>by
   refine⟨by simp[hlen],fun i o9 hi=>?_⟩
   rw[List.getElem?_set]at hi
   split at hi
   ·split at hi
    ·simp at hi
    cases hi
   by_cases hij:j=i
   ·subst hij
    rw[List.getElem?_set_self hlt]at hi
    injection hi with hi
    injection hi with hi
    subst hi
    rw[hcoj]
    refine⟨Ja (by simpa only[CR]using lL (fun _ _=>rfl) hN _ _ hor) (dN (fun _ _=>rfl) hN hsame _ _ hcl),fun h=>?_⟩
    rw[hbj]at h
    cases h
   rw[List.getElem?_set_ne hij]at hi
   have h1:=hR.obs.2 i o9 hi
   rw[nG hjl,if_neg (fun h=>hij h.symm)]
   exact⟨dN (fun _ _=>rfl) hN hsame _ _ h1.1,h1.2⟩) hsame
  exact⟨_,m.1⟩
theorem iJ {j k p e z n t' z':Nat}{l l' l2:List AV}{trs:List Tr}(hne:Nat.beq j k=false) (hz:Nat.beq z 0=false) (ho:cT ob j=some ⟨t',z',l⟩) (hok:cT ob k=some ⟨e,z,l2⟩) (hp:l[p]? =some (.sl k 0 n)) (hl2:l2.take (n*z)=trs.map .t) (hn:trs.length=n*z) (hl:l.set p (.t (.s true e z n trs))=l'):Sub x g ob g ((ob.set j (some ⟨t',z',l'⟩)).set k none):=by
 have hz0:z≠0:=fun e=>by subst e;simp at hz
 have hkk:=dM hok
 refine UD hne ho hok hp (fun{W N cs y} h=>by cases y <;> simp only[CR]at h;exact⟨_,rfl,h⟩) (fun{cs ts W u} hR hr=>?_) hl
 have hck:=hR.crl hkk
 simp only[AR]at hr
 obtain⟨_,hr⟩:=hr
 have hort:ORL W (x.fr W ob cs) trs ((co cs k).l.take (n*z)):=by
  have:=lB (n*z) hck
  dsimp only at this
  rw[hl2]at this
  exact wD this
 cases hb:(co cs k).b with
 | none=>
  rw[hb]at hr
  obtain⟨rfl,_,rfl⟩:=hr
  refine⟨.w (.slice none 0 0),rfl,?_,by simp[VT.ok],fun b=>by simp[VT.fp]⟩
  simp only[OR]
  exact .inl ⟨trivial,trivial,List.eq_nil_of_length_eq_zero (by simpa using hn),trivial⟩
 | some b=>
  rw[hb]at hr
  obtain⟨o',c,rfl,h1,h2,h3,h4⟩:=hr
  obtain rfl:=h3 (.inr trivial)
  have hc:=h4 trivial
  subst hc
  obtain⟨⟨rs,k1,k1l⟩,k2,k3⟩:=hR.blk hkk hb
  dsimp only at k1l
  rw[hz,cond_false]at k1l
  refine⟨.s b (co cs k).c e z n ((co cs k).l.take (n*z)),rfl,?_,?_,fun b'=>?_⟩
  ·simp only[OR]
   exact⟨trivial,trivial,trivial,trivial,hort⟩
  ·simp only[VT.ok]
   refine⟨⟨((co cs k).l.drop (n*z)).map VT.val++rs,?_,?_⟩,h1,k3,by rw[Al hort,hn],xR _ _ k2⟩
   ·rw[←List.append_assoc,pC]
    exact k1
   rw[←List.append_assoc,pC,k1l]
  simp only[VT.fp,aR,hb]
  exact((Dw (co cs k).l (n*z)).cons_cons b).count_le b'
theorem Hv {j k p e t' z':Nat}{l l':List AV}{trs:List Tr}(hne:Nat.beq j k=false) (ho:cT ob j=some ⟨t',z',l⟩) (hok:cT ob k=some ⟨e,0,trs.map .t⟩) (hp:l[p]? =some (.pt k 0)) (hl:l.set p (.t (.p true e trs))=l'):Sub x g ob g ((ob.set j (some ⟨t',z',l'⟩)).set k none):=by
 have hkk:=dM hok
 refine UD hne ho hok hp (fun{W N cs y} h=>by cases y <;> simp only[CR]at h;exact⟨_,rfl,h⟩) (fun{cs ts W u} hR hr=>?_) hl
 have hck:=wD (hR.crl hkk)
 simp only[AR]at hr
 obtain⟨b,hb,rfl⟩:=hr
 obtain⟨⟨rs,k1,k1l⟩,k2,k3⟩:=hR.blk hkk hb
 dsimp only at k1l
 rw[Nat.beq_refl,cond_true]at k1l
 have hrs:rs=[]:=List.eq_nil_of_length_eq_zero (by rw[fE,dB]at k1l;omega)
 refine⟨.p b e (co cs k).l,rfl,?_,?_,fun b'=>?_⟩
 ·simp only[OR]
  exact⟨trivial,trivial,hck⟩
 ·simp only[VT.ok]
  exact⟨⟨rs,k1,k1l⟩,k2⟩
 simp only[VT.fp,aR,hb]
 exact bC _
end
end Go.Proofs.YtbbabfkgdnkehaaGreat
