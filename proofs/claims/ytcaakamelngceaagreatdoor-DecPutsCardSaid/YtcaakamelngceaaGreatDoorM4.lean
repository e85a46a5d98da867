/- Part 4 of a proof: Av18 to Av22. -/
import Derived.Test.YtcaakamelngceaaGreatDoorM3
import Derived.Test.YtcaakamelngceaaGreatDoorChecked
set_option maxRecDepth 100000
set_option linter.unusedVariables false
set_option linter.unusedSimpArgs false
namespace Go.Proofs.YtcaakamelngceaaGreatDoor
open Go Go.RowKit
section
variable {x:Cx}{g g':Nat→FV}{ob ob':List (Option Ob)}{cs cs':List Co}{ts ts':Array Value}{W W':World}{T:List (Nat×TI)}{Q:Post}{ops:Array Oper}{d:Nat}{op:Op}{ty:TypeId}{pos:String}{af:Array Edge}{gd:Option (Nat×Bool)}{late:Nat→Bool}{K fr:List Nat}{on:Bool}{fuel:Nat}{listed:Array Bool}
theorem uF {v:FV}:∀j,some d≠some j→aZ g d v j=g j:=fun j hj=>by
 have hb:Nat.beq j d=false:=by
  cases hq:Nat.beq j d
  ·rfl
  exact absurd (by rw[Nat.eq_of_beq_eq_true hq]) hj
 simp[aZ,hb]
theorem dn (i:Nat) (hi:ops[i]? =some ⟨some d,op,ty,pos,af,gd⟩) (hst:kA ops late listed i=true) (hw:aY ops x.n g gd=some false)
  (k:WD x ops Q late K fr true fuel (listed.setIfInBounds i true) (aZ g d (.one (tv undef))) ob):WD x ops Q late K fr true (fuel+1) listed g ob:=by
 intro Kp W1 cs ts W hR hK1 hK2 hon
 have hk:=hon rfl
 simp only[kA,Bool.and_eq_true]at hst
 obtain⟨s1,s2,s3,s4⟩:=hst
 exact tE hi (Region.noSelect_spec s1) (fun c a w h=>h) (fun j oj hj hlj=>nV s4 j oj hj hlj) fuel listed _ W (Region.free_spec hi s2) (by simpa using s3) (.inr ⟨iW hw hR,rfl⟩) hk.same
  (k Kp W1 cs _ W (hR.put d (v:=.one (tv undef)) (eV (by simp[tv,AR,FR]))) hK1 hK2 fun _=>hk.put hR.1 (v:=.one (tv undef)) (eV (by simp[tv,AR,FR])))
theorem WD.split {t:Nat}{p:Prop} [Decidable p] (h:lk x.n g (.tmp t)=.one (tv (.bool (decide p)))) (ht:g t=.one (tv (.bool (decide p)))) (h1:p→WD x ops Q late K fr on fuel listed (aZ g t (.one (tv (.bool true)))) ob) (h2:¬p→WD x ops Q late K fr on fuel listed (aZ g t (.one (tv (.bool false)))) ob):WD x ops Q late K fr on fuel listed g ob:=by
 have key:∀b:Bool,decide p=b→aZ g t (.one (tv (.bool b)))=g:=fun b hb=>by
  funext i
  unfold aZ
  cases hq:Nat.beq i t
  ·rfl
  rw[Nat.eq_of_beq_eq_true hq,ht,hb]
  rfl
 by_cases hp:p
 ·rw[←key true (by simp[hp])]
  exact h1 hp
 rw[←key false (by simp[hp])]
 exact h2 hp
theorem WL.split {t:Nat}{rest:List Oper}{p:Prop} [Decidable p] (ht:g t=.one (tv (.bool (decide p)))) (h1:p→WL x ops rest (aZ g t (.one (tv (.bool true)))) ob Q) (h2:¬p→WL x ops rest (aZ g t (.one (tv (.bool false)))) ob Q):WL x ops rest g ob Q:=by
 have key:∀b:Bool,decide p=b→aZ g t (.one (tv (.bool b)))=g:=fun b hb=>by
  funext i
  unfold aZ
  cases hq:Nat.beq i t
  ·rfl
  rw[Nat.eq_of_beq_eq_true hq,ht,hb]
  rfl
 by_cases hp:p
 ·rw[←key true (by simp[hp])]
  exact h1 hp
 rw[←key false (by simp[hp])]
 exact h2 hp
def JJ (K:List Nat) (ob:List (Option Ob)):Bool:=K.all fun k=>Nat.blt k ob.length
theorem CT {o:Option Ob}{l:List (Option Ob)}(h:JJ K ob=true) (k:Nat) (hk:k∈K):(ob++l)[k]? =ob[k]? :=by
 have:=List.all_eq_true.1 h k hk
 have hlt:k<ob.length:=by simpa[Nat.blt,Nat.lt_iff_add_one_le]using this
 exact List.getElem?_append_left hlt
def oX (ob ob':List (Option Ob)):List Nat→Prop
 | []=>True
 | k::K=>ob'[k]? =ob[k]? ∧oX ob ob' K
theorem iR:∀{K:List Nat},oX ob ob' K→∀k∈K,ob'[k]? =ob[k]?
 | [],_,k,hk=>by simp at hk
 | k0::K,h,k,hk=>by
  rcases List.mem_cons.1 hk with rfl | hk
  ·exact h.1
  exact iR h.2 k hk
theorem Om {o:Oper}{R:(Nat→FV)→List (Option Ob)→Prop}{v:FV}(i:Nat) (hr:Region.ready .any ops listed=[i]) (hi:ops[i]? =some o) (hd:o.dst=some d) (hw:aY ops x.n g o.guard=some true) (h:OS x o g ob [] R)
  (hg:∀g' ob',R g' ob'→g'=aZ g d v∧∀k∈K,ob'[k]? =ob[k]?) (k:∀g' ob',R g' ob'→WD x ops Q late K (d::fr) true fuel (listed.setIfInBounds i true) g' ob'):WD x ops Q late K fr true (fuel+1) listed g ob:=by
 refine Gf i hr hi hw h true (fun _=>⟨rfl,fun _ _ h=>by simp at h⟩) (fun _=>rfl) (fun _ g' ob' hR=>?_) fun g' ob' hR=>by rw[hd];exact k g' ob' hR
 obtain⟨h1,h2⟩:=hg g' ob' hR
 exact⟨by rw[hd,h1];exact uF,h2⟩
theorem JK {fresh:Bool}{f:FuncId}{args:List FV}{r v:FV}{aa:Array Operand}{ats:Array TypeId}(i:Nat) (hr:Region.ready .any ops listed=[i]) (hi:ops[i]? =some ⟨some d,.call ⟨.value (.func f),aa,ats⟩,ty,pos,af,gd⟩) (hw:aY ops x.n g gd=some true) (hS:aE fresh x.P f [] args (aN r)) (hf:CallOk x.P f) (ha:AL fresh x g ob aa.toList args) (hv:vW r=v)
  (k:WD x ops Q late K (d::fr) true fuel (listed.setIfInBounds i true) (aZ g d v) ob):WD x ops Q late K fr true (fuel+1) listed g ob:=
 Om (v:=v) i hr hi rfl hw (Aq hS hf ha) (by rintro _ _ ⟨r',rfl,rfl,rfl⟩;exact⟨by rw[hv],fun _ _=>rfl⟩) (by rintro _ _ ⟨r',rfl,rfl,rfl⟩;rw[hv];exact k)
theorem eH {t key:Nat}(i:Nat) (hr:Region.ready .any ops listed=[i]) (hi:ops[i]? =some ⟨some d,.alloc t,ty,pos,af,gd⟩) (hw:aY ops x.n g gd=some true) (hT:bQ x.P T) (h:Ak T t key ob=some ob') (hke:oX ob ob' K)
  (k:WD x ops Q late K (d::fr) true fuel (listed.setIfInBounds i true) (aZ g d (.one (.pt key 0))) ob'):WD x ops Q late K fr true (fuel+1) listed g ob:=
 Om (v:=.one (.pt key 0)) i hr hi rfl hw (Og hT h) (by rintro _ _ ⟨rfl,rfl⟩;exact⟨rfl,iR hke⟩) (by rintro _ _ ⟨rfl,rfl⟩;exact k)
theorem On {o:Oper}{R:(Nat→FV)→List (Option Ob)→Prop}{v:FV}(i:Nat) (hi:ops[i]? =some o) (hd:o.dst=some d) (hw:aY ops x.n g o.guard=some true) (h:OS x o g ob [] R)
  (hg:∀g' ob',R g' ob'→g'=aZ g d v∧∀k∈K,ob'[k]? =ob[k]?) (k:∀g' ob',R g' ob'→WD x ops Q late K (d::fr) true fuel (listed.setIfInBounds i true) g' ob'):WO x ops Q late K fr true fuel listed i g ob:=by
 refine Yk i hi hw h true (fun _=>⟨rfl,fun _ _ h=>by simp at h⟩) (fun _=>rfl) (fun _ g' ob' hR=>?_) fun g' ob' hR=>by rw[hd];exact k g' ob' hR
 obtain⟨h1,h2⟩:=hg g' ob' hR
 exact⟨by rw[hd,h1];exact uF,h2⟩
theorem JL {fresh:Bool}{f:FuncId}{args:List FV}{r v:FV}{aa:Array Operand}{ats:Array TypeId}(i:Nat) (hi:ops[i]? =some ⟨some d,.call ⟨.value (.func f),aa,ats⟩,ty,pos,af,gd⟩) (hw:aY ops x.n g gd=some true) (hS:aE fresh x.P f [] args (aN r)) (hf:CallOk x.P f) (ha:AL fresh x g ob aa.toList args) (hv:vW r=v)
  (k:WD x ops Q late K (d::fr) true fuel (listed.setIfInBounds i true) (aZ g d v) ob):WO x ops Q late K fr true fuel listed i g ob:=
 On (v:=v) i hi rfl hw (Aq hS hf ha) (by rintro _ _ ⟨r',rfl,rfl,rfl⟩;exact⟨by rw[hv],fun _ _=>rfl⟩) (by rintro _ _ ⟨r',rfl,rfl,rfl⟩;rw[hv];exact k)
theorem bS {t key:Nat}(i:Nat) (hi:ops[i]? =some ⟨some d,.alloc t,ty,pos,af,gd⟩) (hw:aY ops x.n g gd=some true) (hT:bQ x.P T) (h:Ak T t key ob=some ob') (hke:oX ob ob' K)
  (k:WD x ops Q late K (d::fr) true fuel (listed.setIfInBounds i true) (aZ g d (.one (.pt key 0))) ob'):WO x ops Q late K fr true fuel listed i g ob:=
 On (v:=.one (.pt key 0)) i hi rfl hw (Og hT h) (by rintro _ _ ⟨rfl,rfl⟩;exact⟨rfl,iR hke⟩) (by rintro _ _ ⟨rfl,rfl⟩;exact k)
theorem Nk {t len key:Nat}{ps:Array (Nat×Operand)}(i:Nat) (hr:Region.ready .any ops listed=[i]) (hi:ops[i]? =some ⟨some d,.buildSlice t len ps,ty,pos,af,gd⟩) (hw:aY ops x.n g gd=some true) (hT:bQ x.P T) (h:Gq T x.n g t len key ps.toList ob=some ob') (hke:oX ob ob' K)
  (k:WD x ops Q late K (d::fr) true fuel (listed.setIfInBounds i true) (aZ g d (.one (.sl key 0 len))) ob'):WD x ops Q late K fr true (fuel+1) listed g ob:=
 Om (v:=.one (.sl key 0 len)) i hr hi rfl hw (Zh hT h) (by rintro _ _ ⟨rfl,rfl⟩;exact⟨rfl,iR hke⟩) (by rintro _ _ ⟨rfl,rfl⟩;exact k)
theorem cZ {C:Prop}{v:FV}(i:Nat) (hr:Region.ready .any ops listed=[i]) (hi:ops[i]? =some ⟨some d,op,ty,pos,af,gd⟩) (hw:aY ops x.n g gd=some true) (hT:bQ x.P T) (h:sW T x.n g op=some (C,v)) (hC:C)
  (k:WD x ops Q late K (d::fr) on fuel (listed.setIfInBounds i true) (aZ g d v) ob) (hl:late i=false→on=true):WD x ops Q late K fr on (fuel+1) listed g ob:=by
 refine Gf i hr hi hw (JC hT h hC) on (fun h=>⟨h,fun _ _ h=>by simp at h⟩) hl (fun _ g' ob' hR=>?_) fun g' ob' hR=>?_
 ·obtain⟨rfl,rfl⟩:=hR
  exact⟨uF,fun _ _=>rfl⟩
 obtain⟨rfl,rfl⟩:=hR
 exact k
theorem SH {t:Nat}{ti:TI}{a b:Operand}(i:Nat) (hr:Region.ready .any ops listed=[i]) (hi:ops[i]? =some ⟨none,.store t a b,ty,pos,af,gd⟩) (hw:aY ops x.n g gd=some true) (hT:bQ x.P T) (hti:bB T t=some ti) (h:tK ti ob (lk x.n g b) (lk x.n g a)=some ob') (hl:late i=true)
  (k:WD x ops Q late K fr false fuel (listed.setIfInBounds i true) g ob'):WD x ops Q late K fr on (fuel+1) listed g ob:=by
 obtain⟨ky,hs,_⟩:=Dd (ty:=ty) (pos:=pos) (af:=af) (gd:=gd) hT hti h
 refine Gf i hr hi hw hs false (fun h=>by cases h) (fun h=>by rw[hl]at h;cases h) (fun h=>by cases h) fun g' ob' hR=>?_
 obtain⟨rfl,rfl⟩:=hR
 exact k
theorem aS {t key o:Nat}{ti:TI}{a b:Operand}(i:Nat) (hr:Region.ready .any ops listed=[i]) (hi:ops[i]? =some ⟨none,.store t a b,ty,pos,af,gd⟩) (hw:aY ops x.n g gd=some true) (hT:bQ x.P T) (hti:bB T t=some ti) (h:tK ti ob (lk x.n g b) (lk x.n g a)=some ob') (hlk:lk x.n g a=.one (.pt key o)) (hK:K.contains key=false) (hke:oX ob ob' K)
  (k:WD x ops Q late K fr true fuel (listed.setIfInBounds i true) g ob'):WD x ops Q late K fr true (fuel+1) listed g ob:=by
 obtain⟨ky,hs,o2,hlk2⟩:=Dd (ty:=ty) (pos:=pos) (af:=af) (gd:=gd) hT hti h
 rw[hlk]at hlk2
 injection hlk2 with e
 injection e with e1 e2
 subst e1
 refine Gf i hr hi hw hs true (fun _=>⟨rfl,fun k hk hm=>?_⟩) (fun _=>rfl) (fun _ g' ob' hR=>?_) fun g' ob' hR=>?_
 ·rw[List.mem_singleton]at hm
  subst hm
  have:K.contains k=true:=by simpa using hk
  rw[hK]at this
  cases this
 ·obtain⟨rfl,rfl⟩:=hR
  exact⟨fun _ _=>rfl,iR hke⟩
 obtain⟨rfl,rfl⟩:=hR
 exact k
theorem WL.splitb {t:Nat}{rest:List Oper}{b:Bool}(ht:g t=.one (tv (.bool b))) (h1:b=true→WL x ops rest (aZ g t (.one (tv (.bool true)))) ob Q) (h2:b=false→WL x ops rest (aZ g t (.one (tv (.bool false)))) ob Q):WL x ops rest g ob Q:=by
 have key:∀b':Bool,b=b'→aZ g t (.one (tv (.bool b')))=g:=fun b' hb=>by
  funext i
  unfold aZ
  cases hq:Nat.beq i t
  ·rfl
  rw[Nat.eq_of_beq_eq_true hq,ht,hb]
  rfl
 cases hb:b
 ·rw[←key false hb]
  exact h2 hb
 rw[←key true hb]
 exact h1 hb
theorem WD.splitb {t:Nat}{b:Bool}(ht:g t=.one (tv (.bool b))) (h1:b=true→WD x ops Q late K fr on fuel listed (aZ g t (.one (tv (.bool true)))) ob) (h2:b=false→WD x ops Q late K fr on fuel listed (aZ g t (.one (tv (.bool false)))) ob):WD x ops Q late K fr on fuel listed g ob:=by
 have key:∀b':Bool,b=b'→aZ g t (.one (tv (.bool b')))=g:=fun b' hb=>by
  funext i
  unfold aZ
  cases hq:Nat.beq i t
  ·rfl
  rw[Nat.eq_of_beq_eq_true hq,ht,hb]
  rfl
 cases hb:b
 ·rw[←key false hb]
  exact h2 hb
 rw[←key true hb]
 exact h1 hb
theorem WL.cast {t:Nat}{rest:List Oper}{u u':Value}(ht:g t=.one (tv u)) (e:u=u') (k:WL x ops rest (aZ g t (.one (tv u'))) ob Q):WL x ops rest g ob Q:=by
 have:aZ g t (.one (tv u'))=g:=by
  funext i
  unfold aZ
  cases hq:Nat.beq i t
  ·rfl
  rw[Nat.eq_of_beq_eq_true hq,ht,e]
  rfl
 rwa[this]at k
theorem WD.cast {t:Nat}{u u':Value}(ht:g t=.one (tv u)) (e:u=u') (k:WD x ops Q late K fr on fuel listed (aZ g t (.one (tv u'))) ob):WD x ops Q late K fr on fuel listed g ob:=by
 have:aZ g t (.one (tv u'))=g:=by
  funext i
  unfold aZ
  cases hq:Nat.beq i t
  ·rfl
  rw[Nat.eq_of_beq_eq_true hq,ht,e]
  rfl
 rwa[this]at k
theorem aI {k:IntKind}{a b:Int}(h:a=b):Value.int k a=.int k b:=by rw[h]
theorem Sub.trans {g2:Nat→FV}{ob2:List (Option Ob)}(h:Sub x g ob g' ob') (h':Sub x g' ob' g2 ob2):Sub x g ob g2 ob2:=fun ts W hR=>h' ts W (h ts W hR)
theorem nr {i:Nat}(key e z:Nat) (hz:Nat.beq z 0=false) (hk:dT ob key=true) (hi:Nat.blt i x.n=true) (hg:g i=.one (tv (.slice none 0 0))):Sub x g ob (aZ g i (.one (.sl key 0 0))) (ob++[some ⟨e,z,[]⟩]):=by
 rintro ts W ⟨cs,hR⟩
 have hk:=Nat.eq_of_beq_eq_true hk
 have hi:i<x.n:=by simpa[Nat.blt,Nat.lt_iff_add_one_le]using hi
 have hz0:z≠0:=fun e=>by subst e;simp at hz
 have m1:=hR.push (Below.refl _ _) ⟨e,z,[]⟩ ⟨none,0,[]⟩ (by simp[aP]) (by simp[aP]) (by simp[aP]) (by simp[bJ]) (fun _=>⟨rfl,hz0⟩)
 obtain⟨u,h1,h2⟩:=hR.fv hi
 rw[hg]at h2
 have h2:=aT h2
 subst h2
 have m2:=m1.put i (v:=.one (.sl key 0 0)) (u:=.slice none 0 0) (by
  refine eV ?_
  simp only[AR]
  rw[←hk,hR.len,fL]
  exact⟨by simp,by trivial,by trivial,by trivial⟩)
 have e:ts.setIfInBounds i (.slice none 0 0)=ts:=by
  apply Array.ext_getElem?
  intro j
  rw[Array.getElem?_setIfInBounds]
  split
  ·rename_i e
   subst e
   split
   ·exact h1.symm
   rename_i h9
   rw[hR.1]at h9
   exact absurd hi h9
  rfl
 rw[e]at m2
 exact⟨_,m2⟩
theorem Zj {t e z by_ n m j:Nat}{zz:Value}{ti:Bool}{ts0:Nat}{z0:List Value}{a b:Operand}{av bv:AV}{l news:List AV}(i:Nat) (hi:ops[i]? =some ⟨some d,.call ⟨.builtin .append, #[a,b], #[t,t]⟩,ty,pos,af,gd⟩) (hT:bQ x.P T) (ht:bB T t=some ⟨ti,ts0,z0,.sl e z by_ zz⟩) (ha:lk x.n g a=.one av) (hb:lk x.n g b=.one bv)
  (hd:DstA ob e z av n ob' l) (hs:SrcA ob z bv m news) (hrd:eG news=true) (hlo:cL news=true) (hbytes:(n+m)*by_≤140737488355328) (h63:n+m≤140737488355328) (hK:K=[]) (hj:dT ob j=true) (hr:Region.ready .any ops listed=[i]) (hw:aY ops x.n g gd=some true)
  (k:WD x ops Q late K (d::fr) true fuel (listed.setIfInBounds i true) (aZ g d (.one (.sl j 0 (n+m)))) (ob'++[some ⟨e,z,l++news⟩])):WD x ops Q late K fr true (fuel+1) listed g ob:=by
 subst hK
 obtain⟨Wr,h,_⟩:=Sb (d:=d) (ty:=ty) (pos:=pos) (af:=af) (gd:=gd) hT ht ha hb hd hs hrd hlo hj hbytes h63
 refine Gf i hr hi hw h true (fun _=>⟨rfl,fun _ h=>by simp at h⟩) (fun _=>rfl) (fun _ g' ob' hR=>?_) fun g' ob' hR=>?_
 ·obtain⟨rfl,rfl⟩:=hR
  exact⟨uF,fun _ h=>by simp at h⟩
 obtain⟨rfl,rfl⟩:=hR
 exact k
end
def Ar (k:Nat):AV→Option (AV×List Ob)
 | .t (.s true t z n l)=>match Nat.beq z 0 with
  | false=>some (.sl k 0 n,[⟨t,z,l.map .t⟩])
  | true=>none
 | .t (.p true t l)=>some (.pt k 0,[⟨t,0,l.map .t⟩])
 | .t (.s false t z n l)=>some (.t (.s false t z n l),[])
 | .t (.p false t l)=>some (.t (.p false t l),[])
 | .t (.v v)=>some (.t (.v v),[])
 | .t (.f g l0 l)=>some (.t (.f g l0 l),[])
 | _=>none
def nA (k:Nat):List AV→Option (List AV×List Ob)
 | []=>some ([],[])
 | a::l=>match Ar k a with
  | some (a',[])=>match nA k l with
   | some (l',os)=>some (a'::l',os)
   | none=>none
  | some (a',o::_)=>match nA (k+1) l with
   | some (l',os)=>some (a'::l',o::os)
   | none=>none
  | none=>none
def lV:VT→Co
 | .w _=>⟨none,0,[]⟩
 | .s b c _ _ _ l=>⟨some b,c,l⟩
 | .p b _ l=>⟨some b,0,l⟩
section
variable {W:World}{N:Nat→Prop}
theorem As {k:Nat}{a a':AV}{os:List Ob}{y:VT}(hc:CR W N [] a y) (hok:y.ok W) (h:Ar k a=some (a',os)):
  (os=[]∧y.fp=[]∧∀(N':Nat→Prop) (cs:List Co),(∀b,N b→N' b)→AR W N' cs a' y.val)∨
  (∃o,os=[o]∧(aP (some o) (lV y)).S=y.fp∧(aP (some o) (lV y)).φ W∧(∀(N':Nat→Prop) (cs:List Co),(∀b,N b→N' b)→k<cs.length→co cs k=lV y→AR W N' cs a' y.val∧bJ W N' cs o.l (lV y).l)∧((lV y).b=none→o.l=[]∧o.z≠0)):=by
 unfold Ar at h
 split at h
 ·rename_i t z n l
  split at h
  ·rename_i hz
   injection h with h
   injection h with h1 h2
   subst h1 h2
   refine .inr ⟨_,rfl,?_⟩
   have hz0:z≠0:=fun e=>by subst e;simp at hz
   simp only[CR]at hc
   cases y with
   | w u=>
    simp only[OR]at hc
    rcases hc with⟨_,rfl,rfl,rfl⟩ | ⟨hc,_⟩
    ·refine⟨rfl,by simp[aP,lV],fun N' cs hN hk hco=>⟨?_,by simp[bJ,lV]⟩,fun _=>⟨rfl,hz0⟩⟩
     simp only[AR,hco,lV,VT.val]
     exact⟨hk,by trivial,by trivial,by trivial⟩
    cases hc
   | s b c t' z' n' l'=>
    simp only[OR]at hc
    obtain⟨_,rfl,rfl,rfl,hl⟩:=hc
    simp only[VT.ok]at hok
    obtain⟨k1,k2,k3,k4,k5⟩:=hok
    refine⟨rfl,?_,fun N' cs hN hk hco=>⟨?_,Ap (ORL_keep (fun _ _=>rfl) hN _ _ hl)⟩,fun h=>by cases h⟩
    ·simp only[aP,lV]
     rw[hz,cond_false]
     exact⟨k1,k5,k3⟩
    simp only[AR,hco,lV,VT.val]
    exact⟨hk,0,c,rfl,k2,by unfold maxLen at k3;omega,fun _=>rfl,fun _=>rfl⟩
   | p b t' l'=>simp only[OR]at hc
  cases h
 ·rename_i t l
  injection h with h
  injection h with h1 h2
  subst h1 h2
  refine .inr ⟨_,rfl,?_⟩
  simp only[CR]at hc
  cases y with
  | w u=>
   simp only[OR]at hc
   cases hc.1
  | s b c t' z' n' l'=>simp only[OR]at hc
  | p b t' l'=>
   simp only[OR]at hc
   obtain⟨_,rfl,hl⟩:=hc
   simp only[VT.ok]at hok
   refine⟨rfl,?_,fun N' cs hN hk hco=>⟨?_,Ap (ORL_keep (fun _ _=>rfl) hN _ _ hl)⟩,fun h=>by cases h⟩
   ·simp only[aP,lV]
    exact⟨hok.1,hok.2,Nat.zero_le _⟩
   simp only[AR,hco,lV,VT.val]
   exact⟨b,rfl,rfl⟩
 ·injection h with h
  injection h with h1 h2
  subst h1 h2
  have hr:=yR hc rfl
  refine .inl ⟨rfl,?_,fun N' cs hN=>fU (fun _ _=>rfl) hN ⟨Nat.zero_le _,fun k hk=>by simp at hk⟩ _ _ hr⟩
  simp only[CR]at hc
  cases y with
  | w u=>rfl
  | s=>simp only[OR]at hc;cases hc.1
  | p=>simp only[OR]at hc
 ·injection h with h
  injection h with h1 h2
  subst h1 h2
  have hr:=yR hc rfl
  refine .inl ⟨rfl,?_,fun N' cs hN=>fU (fun _ _=>rfl) hN ⟨Nat.zero_le _,fun k hk=>by simp at hk⟩ _ _ hr⟩
  simp only[CR]at hc
  cases y with
  | w u=>rfl
  | s=>simp only[OR]at hc
  | p=>simp only[OR]at hc;cases hc.1
 ·injection h with h
  injection h with h1 h2
  subst h1 h2
  have hr:=yR hc rfl
  refine .inl ⟨rfl,?_,fun N' cs hN=>fU (fun _ _=>rfl) hN ⟨Nat.zero_le _,fun k hk=>by simp at hk⟩ _ _ hr⟩
  simp only[CR,OR]at hc
  subst hc
  rfl
 ·injection h with h
  injection h with h1 h2
  subst h1 h2
  have hr:=yR hc rfl
  refine .inl ⟨rfl,?_,fun N' cs hN=>fU (fun _ _=>rfl) hN ⟨Nat.zero_le _,fun k hk=>by simp at hk⟩ _ _ hr⟩
  simp only[CR]at hc
  cases y with
  | w u=>rfl
  | s=>simp only[OR]at hc
  | p=>simp only[OR]at hc
 cases h
theorem vI:∀{l l':List AV}{k:Nat}{os:List Ob}{ys:List VT},bJ W N [] l ys→VT.okL W ys→nA k l=some (l',os)→∃cs2:List Co,cs2.length=os.length∧(aK (os.map some) cs2).flatMap Res.S=VT.fpL ys∧(∀r∈aK (os.map some) cs2,r.φ W)∧
  ∀(N':Nat→Prop) (cs:List Co),(∀b,N b→N' b)→k+os.length≤cs.length→(∀i,i<os.length→co cs (k+i)=co cs2 i)→ARL W N' cs l' (ys.map VT.val)∧∀(i:Nat) (o:Ob),os[i]? =some o→bJ W N' cs o.l (co cs2 i).l∧((co cs2 i).b=none→o.l=[]∧o.z≠0)
 | [],l',k,os,ys,hc,hok,h=>by
  simp only[bJ]at hc
  subst hc
  simp[nA]at h
  obtain⟨rfl,rfl⟩:=h
  exact⟨[],rfl,rfl,by simp[aK],fun N' cs hN hk hco=>⟨by simp[ARL],fun i o ho=>by simp at ho⟩⟩
 | a::l,l',k,os,[],hc,hok,h=>by simp only[bJ]at hc
 | a::l,l',k,os,y::ys,hc,hok,h=>by
  simp only[bJ]at hc
  simp only[VT.okL]at hok
  unfold nA at h
  split at h
  ·rename_i a' ha
   split at h
   ·rename_i l2 os2 hl
    injection h with h
    injection h with h1 h2
    subst h1 h2
    obtain⟨cs2,e1,e2,e3,e4⟩:=vI hc.2 hok.2 hl
    rcases As hc.1 hok.1 ha with⟨_,f1,f2⟩ | ⟨o,f1,_⟩
    ·refine⟨cs2,e1,by rw[e2];simp[VT.fpL,f1],e3,fun N' cs hN hk hco=>?_⟩
     obtain⟨g1,g2⟩:=e4 N' cs hN hk hco
     simp only[List.map_cons,ARL]
     exact⟨⟨f2 N' cs hN,g1⟩,g2⟩
    cases f1
   cases h
  ·rename_i a' o os0 ha
   split at h
   ·rename_i l2 os2 hl
    injection h with h
    injection h with h1 h2
    subst h1 h2
    obtain⟨cs2,e1,e2,e3,e4⟩:=vI hc.2 hok.2 hl
    rcases As hc.1 hok.1 ha with⟨f1,_⟩ | ⟨o',f1,f2,f3,f4,f5⟩
    ·cases f1
    injection f1 with f1 _
    subst f1
    refine⟨lV y::cs2,by simp[e1],?_,?_,fun N' cs hN hk hco=>?_⟩
    ·unfold aK at e2⊢
     simp only[List.map_cons,List.zipWith_cons_cons,List.flatMap_cons,VT.fpL,f2,e2]
    ·unfold aK at e3⊢
     simp only[List.map_cons,List.zipWith_cons_cons]
     intro r hr
     rcases List.mem_cons.1 hr with rfl | hr
     ·exact f3
     exact e3 r hr
    simp only[List.length_cons]at hk hco
    have h0:=hco 0 (by omega)
    obtain⟨g1,g2⟩:=f4 N' cs hN (by omega) h0
    obtain⟨g3,g4⟩:=e4 N' cs hN (by omega) (fun i hi=>by
     have:=hco (i+1) (by omega)
     rw[show k+(i+1)=k+1+i by omega]at this
     rw[this]
     simp[co])
    simp only[List.map_cons,ARL]
    refine⟨⟨g1,g3⟩,fun i o ho=>?_⟩
    cases i with
    | zero=>
     simp at ho
     subst ho
     exact⟨g2,f5⟩
    | succ i=>
     have:=g4 i o (by simpa using ho)
     simpa[co]using this
   cases h
  cases h
end
def uG (k:Nat):FV→Option (FV×List Ob)
 | .one a=>match Ar k a with
  | some (a',os)=>some (.one a',os)
  | none=>none
 | .agg l=>match nA k l with
  | some (l',os)=>some (.agg l',os)
  | none=>none
 | _=>none
def xC (k:Nat):List FV→Option (List FV×List Ob)
 | []=>some ([],[])
 | a::l=>match uG k a with
  | some (a',os)=>match xC (k+os.length) l with
   | some (l',os')=>some (a'::l',os++os')
   | none=>none
  | none=>none
def kP (k:Nat):FV→Option (FV×List Ob)
 | .tup l=>match xC k l with
  | some (l',os)=>some (.tup l',os)
  | none=>none
 | v=>uG k v
section
variable {W:World}{N:Nat→Prop}
def Bnd (W:World) (N:Nat→Prop) (k:Nat) (os:List Ob) (ys:List VT) (A:(Nat→Prop)→List Co→Prop):Prop:=∃cs2:List Co,cs2.length=os.length∧(aK (os.map some) cs2).flatMap Res.S=VT.fpL ys∧(∀r∈aK (os.map some) cs2,r.φ W)∧
  ∀(N':Nat→Prop) (cs:List Co),(∀b,N b→N' b)→k+os.length≤cs.length→(∀i,i<os.length→co cs (k+i)=co cs2 i)→A N' cs∧∀(i:Nat) (o:Ob),os[i]? =some o→bJ W N' cs o.l (co cs2 i).l∧((co cs2 i).b=none→o.l=[]∧o.z≠0)
theorem At {k:Nat}{r v:FV}{os:List Ob}{u:Value}{ys:List VT}(hr:sX W N [] r u ys) (hok:VT.okL W ys) (h:uG k r=some (v,os)):Bnd W N k os ys (fun N' cs=>bO W N' cs v u):=by
 cases r with
 | any=>exact hr.elim
 | tup l=>exact hr.elim
 | one a=>
  obtain⟨z,rfl,rfl,hc⟩:=hr
  unfold uG at h
  dsimp only at h
  split at h
  ·rename_i a' os' ha
   injection h with h
   injection h with h1 h2
   subst h1 h2
   have hl:nA k [a]=some ([a'],os')∨∃o r,os'=o::r:=by
    cases os' with
    | nil=>left;simp[nA,ha]
    | cons o r=>exact .inr ⟨o,r,rfl⟩
   have hl2:nA k [a]=some ([a'],os'):=by
    rcases hl with hl | ⟨o,r,rfl⟩
    ·exact hl
    have hr':r=[]:=by
     rcases As hc (by simpa[VT.okL]using hok) ha with⟨f1,_⟩ | ⟨o',f1,_⟩
     ·cases f1
     injection f1
    subst hr'
    simp[nA,ha]
   obtain⟨cs2,e1,e2,e3,e4⟩:=vI (l:=[a]) (ys:=[z]) (by simp only[bJ];exact⟨hc,trivial⟩) hok hl2
   refine⟨cs2,e1,e2,e3,fun N' cs hN hk hco=>?_⟩
   obtain⟨g1,g2⟩:=e4 N' cs hN hk hco
   simp only[List.map_cons,ARL]at g1
   exact⟨g1.1,g2⟩
  cases h
 | agg l=>
  obtain⟨rfl,hc⟩:=hr
  unfold uG at h
  dsimp only at h
  split at h
  ·rename_i l' os' hl
   injection h with h
   injection h with h1 h2
   subst h1 h2
   obtain⟨cs2,e1,e2,e3,e4⟩:=vI hc hok hl
   refine⟨cs2,e1,e2,e3,fun N' cs hN hk hco=>?_⟩
   obtain⟨g1,g2⟩:=e4 N' cs hN hk hco
   exact⟨⟨_,rfl,g1⟩,g2⟩
  cases h
theorem Bnd.app {k:Nat}{os os':List Ob}{ys ys':List VT}{A B:(Nat→Prop)→List Co→Prop}(h:Bnd W N k os ys A) (h':Bnd W N (k+os.length) os' ys' B):Bnd W N k (os++os') (ys++ys') (fun N cs=>A N cs∧B N cs):=by
 obtain⟨c1,a1,a2,a3,a4⟩:=h
 obtain⟨c2,b1,b2,b3,b4⟩:=h'
 have hr:aK ((os++os').map some) (c1++c2)=aK (os.map some) c1++aK (os'.map some) c2:=by
  unfold aK
  rw[List.map_append,List.zipWith_append (by simp[a1])]
 have hc1:∀i,i<os.length→co (c1++c2) i=co c1 i:=fun i hi=>by simp[co,List.getElem?_append_left (show i<c1.length by omega)]
 have hc2:∀i,co (c1++c2) (os.length+i)=co c2 i:=fun i=>by
  unfold co
  rw[List.getElem?_append_right (by omega),show os.length+i-c1.length=i by omega]
 refine⟨c1++c2,by simp[a1,b1],by rw[hr,List.flatMap_append,a2,b2,jG],fun r hm=>?_,fun N' cs hN hk hco=>?_⟩
 ·rw[hr]at hm
  rcases List.mem_append.1 hm with hm | hm
  ·exact a3 r hm
  exact b3 r hm
 simp only[List.length_append]at hk hco
 obtain⟨g1,g2⟩:=a4 N' cs hN (by omega) (fun i hi=>by rw[hco i (by omega),hc1 i hi])
 obtain⟨g3,g4⟩:=b4 N' cs hN (by omega) (fun i hi=>by
  have:=hco (os.length+i) (by omega)
  rw[hc2,show k+(os.length+i)=k+os.length+i by omega]at this
  exact this)
 refine⟨⟨g1,g3⟩,fun i o ho=>?_⟩
 rcases Nat.lt_or_ge i os.length with hi | hi
 ·rw[List.getElem?_append_left hi]at ho
  rw[hc1 i hi]
  exact g2 i o ho
 rw[List.getElem?_append_right hi]at ho
 have:=g4 (i-os.length) o ho
 rw[←hc2,show os.length+(i-os.length)=i by omega]at this
 exact this
theorem Lo:∀{l l':List FV}{k:Nat}{os:List Ob}{us:List Value}{ys:List VT},tZ W N [] l us ys→VT.okL W ys→xC k l=some (l',os)→Bnd W N k os ys (fun N' cs=>cO W N' cs l' us)
 | [],l',k,os,us,ys,hr,hok,h=>by
  simp[xC]at h
  obtain⟨rfl,rfl⟩:=h
  obtain⟨rfl,rfl⟩:=hr
  exact⟨[],rfl,rfl,by simp[aK],fun N' cs hN hk hco=>⟨by simp[cO],fun i o ho=>by simp at ho⟩⟩
 | a::l,l',k,os,us,ys,⟨v,vs,y1,y2,h1,h2,h3,h4⟩,hok,h=>by
  subst h1 h2
  rw[lT]at hok
  unfold xC at h
  split at h
  ·rename_i a' os1 ha
   split at h
   ·rename_i l2 os2 hl
    injection h with h
    injection h with e1 e2
    subst e1 e2
    have q1:=At h3 hok.1 ha
    have q2:=Lo h4 hok.2 hl
    obtain⟨cs2,e1,e2,e3,e4⟩:=q1.app q2
    exact⟨cs2,e1,e2,e3,fun N' cs hN hk hco=>by
     obtain⟨g1,g2⟩:=e4 N' cs hN hk hco
     exact⟨by simp only[cO];exact g1,g2⟩⟩
   cases h
  cases h
theorem Gt {k:Nat}{r v:FV}{os:List Ob}{u:Value}{ys:List VT}(hr:RO W N [] r u ys) (hok:VT.okL W ys) (h:kP k r=some (v,os)):Bnd W N k os ys (fun N' cs=>bE W N' cs v u):=by
 cases r with
 | tup l=>
  obtain⟨us,rfl,h2⟩:=hr
  unfold kP at h
  dsimp only at h
  split at h
  ·rename_i l' os' hl
   injection h with h
   injection h with h1 h2
   subst h1 h2
   obtain⟨cs2,e1,e2,e3,e4⟩:=Lo h2 hok hl
   exact⟨cs2,e1,e2,e3,fun N' cs hN hk hco=>⟨⟨us,rfl,(e4 N' cs hN hk hco).1⟩,(e4 N' cs hN hk hco).2⟩⟩
  cases h
 | any=>exact hr.elim
 | one a=>
  obtain⟨cs2,e1,e2,e3,e4⟩:=At (r:=.one a) hr hok h
  exact⟨cs2,e1,e2,e3,fun N' cs hN hk hco=>⟨dZ (e4 N' cs hN hk hco).1,(e4 N' cs hN hk hco).2⟩⟩
 | agg l=>
  obtain⟨cs2,e1,e2,e3,e4⟩:=At (r:=.agg l) hr hok h
  exact⟨cs2,e1,e2,e3,fun N' cs hN hk hco=>⟨dZ (e4 N' cs hN hk hco).1,(e4 N' cs hN hk hco).2⟩⟩
end
section
variable {x:Cx}{g g':Nat→FV}{ob ob':List (Option Ob)}{cs cs':List Co}{ts ts':Array Value}{W W':World}{T:List (Nat×TI)}{Q:Post}{ops:Array Oper}{rest:List Oper}{d:Nat}{ty:TypeId}{pos:String}{af:Array Edge}{gd:Option (Nat×Bool)}
theorem Gu {fresh:Bool}{f:FuncId}{args:List FV}{R:List Lt→FV→Prop}{aa:Array Operand}{ats:Array TypeId}{key:Nat}(hS:aE fresh x.P f [] args R) (hf:CallOk x.P f) (ha:AL fresh x g ob aa.toList args) (hk:dT ob key=true) (hb:∀r,R [] r→(kP key r).isSome=true):
  OS x ⟨some d,.call ⟨.value (.func f),aa,ats⟩,ty,pos,af,gd⟩ g ob [] (fun g' ob'=>∃r v os,R [] r∧kP key r=some (v,os)∧g'=aZ g d v∧ob'=ob++os.map some):=by
 intro cs ts W hR K Q kk
 have hC:=Cb hS ha hR
 obtain⟨fn,c,h1,h2,h3⟩:=hf
 have hrun:(execOp (Act.eval ⟨ts,[]⟩) ⟨some d,.call ⟨.value (.func f),aa,ats⟩,ty,pos,af,gd⟩).run x.P W=.ok (.enter f (aa.toList.map (Act.eval ⟨ts,[]⟩)).toArray) W:=by
  have e0:Act.eval ⟨ts,[]⟩ (.func f)=.func (.func f) #[] #[]:=rfl
  have e1:aa.map (Act.eval ⟨ts,[]⟩)=(aa.toList.map (Act.eval ⟨ts,[]⟩)).toArray:=by apply Array.ext';simp only[Array.toList_map]
  simp[execOp,resolve,e0,Deferred.ofValue,invoke,e1,callFunc,h1,h3]
  intro hn
  rw[hn]at h2
  simp at h2
 unfold Oper.wp
 rw[hrun]
 refine hC.mono fun e W' hE=>?_
 obtain⟨u,r,ys,rfl,hr,hbel,hok,hnd,hfp,hro⟩:=hE
 obtain⟨⟨v,os⟩,hbn⟩:=Option.isSome_iff_exists.1 (hb r hr)
 obtain⟨cs2,e1,e2,e3,e4⟩:=Gt hro hok hbn
 have hk:=Nat.eq_of_beq_eq_true hk
 have hlen:=hR.len
 have hrs:aK (ob++os.map some) (cs++cs2)=aK ob cs++aK (os.map some) cs2:=by
  unfold aK
  rw[List.zipWith_append hlen]
 have hext:=hR.2.ext hbel
 have hnew:∀b∈(aK (os.map some) cs2).flatMap Res.S,W.heap.size≤b∧b<W'.heap.size:=fun b hb=>hfp b (by rw[←e2];exact hb)
 have hL:Loc x.M x.w W' (aK (ob++os.map some) (cs++cs2)) []:=by
  rw[hrs]
  refine⟨hext.chg,fun q hq=>?_,fun b hb=>?_,?_,fun _ h=>by cases h⟩
  ·rcases List.mem_append.1 hq with hq | hq
   ·exact hext.res q hq
   exact e3 q hq
  ·rw[List.flatMap_append,List.mem_append]at hb
   rcases hb with hb | hb
   ·exact hext.blk b hb
   exact⟨.inr (Nat.le_trans hR.2.chg.size (hnew b hb).1),(hnew b hb).2⟩
  rw[List.flatMap_append,List.nodup_append]
  refine⟨hext.nd,by rw[e2];exact hnd,fun a ha b hb e=>?_⟩
  subst e
  have:=(hR.2.blk a ha).2
  have:=(hnew a hb).1
  omega
 have hown:∀b∈cC (ob++os.map some) (cs++cs2),b∈cC ob cs∨W.heap.size≤b:=fun b hb=>by
  unfold cC at hb
  rw[hrs,List.flatMap_append,List.mem_append]at hb
  rcases hb with hb | hb
  ·exact .inl hb
  exact .inr (hnew b hb).1
 have hsame:Same cs (cs++cs2):=⟨by simp,fun k hk=>by simp[co,List.getElem?_append_left hk]⟩
 have hcoA:∀k,k<cs.length→co (cs++cs2) k=co cs k:=fun k hk=>by simp[co,List.getElem?_append_left hk]
 have hcoB:∀i,co (cs++cs2) (key+i)=co cs2 i:=fun i=>by
  unfold co
  rw[List.getElem?_append_right (by omega),show key+i-cs.length=i by omega]
 have hN:∀b,x.fr W ob cs b→x.fr W' (ob++os.map some) (cs++cs2) b:=fun b h=>pD h hbel.size hown
 have hkeep:∀b,x.fr W ob cs b→W'.heap[b]? =W.heap[b]? :=fun b h=>hbel.block b h.1.1
 have hN2:∀b,(fresh=false∧b∉VT.fpL ys∧b<W'.heap.size∧(x.fr W ob cs b∨W.heap.size≤b))→x.fr W' (ob++os.map some) (cs++cs2) b:=fun b hb=>by
  obtain⟨_,h5,h6,h7⟩:=hb
  rcases h7 with h7 | h7
  ·exact hN b h7
  refine⟨⟨h6,fun hm=>?_⟩,.inr (.inr (Nat.le_trans hR.2.chg.size h7))⟩
  rw[hrs,List.flatMap_append,List.mem_append]at hm
  rcases hm with hm | hm
  ·have:=(hR.2.blk b hm).2
   omega
  exact h5 (by rw[←e2];exact hm)
 obtain⟨g1,g2⟩:=e4 _ (cs++cs2) hN2 (by simp[e1];omega) (fun i _=>hcoB i)
 have hR':RelC x g (ob++os.map some) (cs++cs2) ts W':=by
  refine .of hR.1 hL ⟨by simp[hlen,e1],fun k o hk'=>?_⟩ (fun i hi=>?_) (hR.3.trans hsame)
  ·rcases Nat.lt_or_ge k ob.length with hlt | hge
   ·rw[List.getElem?_append_left hlt]at hk'
    have h5:=hR.obs.2 k o hk'
    rw[hcoA k (by omega)]
    exact⟨cN hkeep hN hsame _ _ h5.1,h5.2⟩
   rw[List.getElem?_append_right hge]at hk'
   have ho:os[k-ob.length]? =some o:=by
    rw[List.getElem?_map]at hk'
    cases hq:os[k-ob.length]? with
    | none=>rw[hq]at hk';cases hk'
    | some o'=>
     rw[hq]at hk'
     simp at hk'
     rw[hk']
   have h5:=g2 _ o ho
   have e9:=hcoB (k-ob.length)
   rw[show key+(k-ob.length)=k by omega]at e9
   rw[e9]
   exact h5
  obtain⟨u,h5,h6⟩:=hR.fv hi
  exact⟨u,h5,eA hkeep hN hsame _ _ h6⟩
 exact kk _ _ _ _ _ ⟨r,v,os,hr,hbn,rfl,rfl⟩ (hR'.put d g1) ⟨hsame,fun k _ hk=>hcoA k hk,hbel.size,fun b hlt _=>hbel.block b hlt,hown,fun i hi=>Array.getElem?_setIfInBounds_ne (fun e=>hi (by rw[e]))⟩
theorem CU {fresh:Bool}{f:FuncId}{args:List FV}{r v:FV}{os:List Ob}{aa:Array Operand}{ats:Array TypeId}{key:Nat}(hw:aY ops x.n g gd=some true) (hS:aE fresh x.P f [] args (aN r)) (hf:CallOk x.P f) (ha:AL fresh x g ob aa.toList args) (hk:dT ob key=true) (hb:kP key r=some (v,os)) (k:WL x ops rest (aZ g d v) (ob++os.map some) Q):
  WL x ops (⟨some d,.call ⟨.value (.func f),aa,ats⟩,ty,pos,af,gd⟩::rest) g ob Q:=
 fM (Gu hS hf ha hk (by rintro _ rfl;rw[hb];rfl)) hw (by
  rintro _ _ ⟨r',v',os',rfl,h,rfl,rfl⟩
  rw[hb]at h
  injection h with h
  injection h with h1 h2
  subst h1 h2
  exact k)
theorem CV {late:Nat→Bool}{K fr:List Nat}{fuel:Nat}{listed:Array Bool}{fresh:Bool}{f:FuncId}{args:List FV}{r v:FV}{os:List Ob}{aa:Array Operand}{ats:Array TypeId}{key:Nat}(i:Nat) (hr:Region.ready .any ops listed=[i]) (hi:ops[i]? =some ⟨some d,.call ⟨.value (.func f),aa,ats⟩,ty,pos,af,gd⟩) (hw:aY ops x.n g gd=some true) (hS:aE fresh x.P f [] args (aN r)) (hf:CallOk x.P f) (ha:AL fresh x g ob aa.toList args) (hk:dT ob key=true) (hb:kP key r=some (v,os)) (hK:JJ K ob=true)
  (k:WD x ops Q late K (d::fr) true fuel (listed.setIfInBounds i true) (aZ g d v) (ob++os.map some)):WD x ops Q late K fr true (fuel+1) listed g ob:=
 Om (v:=v) i hr hi rfl hw (Gu hS hf ha hk (by rintro _ rfl;rw[hb];rfl)) (by
  rintro _ _ ⟨r',v',os',rfl,h,rfl,rfl⟩
  rw[hb]at h
  injection h with h
  injection h with h1 h2
  subst h1 h2
  exact⟨rfl,fun k hk'=>CT (o:=none) hK k hk'⟩) (by
  rintro _ _ ⟨r',v',os',rfl,h,rfl,rfl⟩
  rw[hb]at h
  injection h with h
  injection h with h1 h2
  subst h1 h2
  exact k)
end
set_option maxRecDepth 100000
theorem TyArr.mk2 {P:Program}{t n size:Nat}(e:Nat) (h:P.underlying t=some (.array n e)) (h2:(P.info? e).map (·.size)=some size):TyArr P t n size:=by
 obtain⟨i,h3,h4⟩:=Option.map_eq_some_iff.1 h2
 exact⟨e,i,h,h3,h4⟩
theorem TZ:eP Tryz.prog 2 ⟨false,1,[.int .i64 0],.it .i64⟩:=⟨⟨.mk (by kernel_rfl) (by kernel_rfl),rfl⟩,.mk (by kernel_rfl),.mk (by kernel_rfl),.mk (by kernel_rfl)⟩
theorem UA:eP Tryz.prog 3 ⟨false,1,[.int .i64 0],.it .i64⟩:=⟨⟨.mk (by kernel_rfl) (by kernel_rfl),rfl⟩,.mk (by kernel_rfl),.mk (by kernel_rfl),.mk (by kernel_rfl)⟩
theorem UB:eP Tryz.prog 4 ⟨false,1,[.bool false],.bl⟩:=⟨⟨.mk (by kernel_rfl) (by kernel_rfl),rfl⟩,.mk (by kernel_rfl),.mk (by kernel_rfl),.mk (by kernel_rfl)⟩
theorem UC:eP Tryz.prog 5 ⟨false,1,[.int .u8 0],.it .u8⟩:=⟨⟨.mk (by kernel_rfl) (by kernel_rfl),rfl⟩,.mk (by kernel_rfl),.mk (by kernel_rfl),.mk (by kernel_rfl)⟩
theorem UD:eP Tryz.prog 9 ⟨false,1,[.string ⟨#[]⟩],.str⟩:=⟨⟨.mk (by kernel_rfl) (by kernel_rfl),rfl⟩,.mk (by kernel_rfl),.mk (by kernel_rfl),.mk (by kernel_rfl)⟩
theorem SI:eP Tryz.prog 23 ⟨false,1,[.slice none 0 0],.sl 115 1 4 (.int .u32 0)⟩:=⟨⟨.mk (by kernel_rfl) (by kernel_rfl),rfl⟩,.mk (by kernel_rfl),.mk (by kernel_rfl),⟨.mk (by kernel_rfl) (by kernel_rfl),.mk (by kernel_rfl) (by kernel_rfl) rfl (by decide)⟩⟩
theorem SJ:eP Tryz.prog 25 ⟨true,2,[.bool false,.slice none 0 0],.st [(0,4,1),(1,23,1)]⟩:=⟨.mk (by kernel_rfl) (by kernel_rfl),.mk (by kernel_rfl),.mk (by kernel_rfl),⟨⟨.mk (by kernel_rfl),.mk (by kernel_rfl),⟨.mk (by kernel_rfl),.mk (by kernel_rfl),trivial⟩⟩,.mk (by kernel_rfl)⟩⟩
theorem SK:eP Tryz.prog 27 ⟨true,4,[.bool false,.slice none 0 0,.bool false,.slice none 0 0],.st [(0,25,2),(2,25,2)]⟩:=⟨.mk (by kernel_rfl) (by kernel_rfl),.mk (by kernel_rfl),.mk (by kernel_rfl),⟨⟨.mk (by kernel_rfl),.mk (by kernel_rfl),⟨.mk (by kernel_rfl),.mk (by kernel_rfl),trivial⟩⟩,.mk (by kernel_rfl)⟩⟩
theorem SL:eP Tryz.prog 28 ⟨false,1,[.int .i64 0],.it .i64⟩:=⟨⟨.mk (by kernel_rfl) (by kernel_rfl),rfl⟩,.mk (by kernel_rfl),.mk (by kernel_rfl),.mk (by kernel_rfl)⟩
theorem SM:eP Tryz.prog 31 ⟨true,2,[.bool false,.slice none 0 0],.st [(0,4,1),(1,23,1)]⟩:=⟨.mk (by kernel_rfl) (by kernel_rfl),.mk (by kernel_rfl),.mk (by kernel_rfl),⟨⟨.mk (by kernel_rfl),.mk (by kernel_rfl),⟨.mk (by kernel_rfl),.mk (by kernel_rfl),trivial⟩⟩,.mk (by kernel_rfl)⟩⟩
theorem SN:eP Tryz.prog 33 ⟨true,4,[.bool false,.slice none 0 0,.bool false,.slice none 0 0],.st [(0,31,2),(2,31,2)]⟩:=⟨.mk (by kernel_rfl) (by kernel_rfl),.mk (by kernel_rfl),.mk (by kernel_rfl),⟨⟨.mk (by kernel_rfl),.mk (by kernel_rfl),⟨.mk (by kernel_rfl),.mk (by kernel_rfl),trivial⟩⟩,.mk (by kernel_rfl)⟩⟩
theorem SO:eP Tryz.prog 54 ⟨false,1,[.slice none 0 0],.sl 9 1 16 (.string ⟨#[]⟩)⟩:=⟨⟨.mk (by kernel_rfl) (by kernel_rfl),rfl⟩,.mk (by kernel_rfl),.mk (by kernel_rfl),⟨.mk (by kernel_rfl) (by kernel_rfl),.mk (by kernel_rfl) (by kernel_rfl) rfl (by decide)⟩⟩
theorem SP:eP Tryz.prog 55 ⟨false,1,[.slice none 0 0],.sl 3 1 8 (.int .i64 0)⟩:=⟨⟨.mk (by kernel_rfl) (by kernel_rfl),rfl⟩,.mk (by kernel_rfl),.mk (by kernel_rfl),⟨.mk (by kernel_rfl) (by kernel_rfl),.mk (by kernel_rfl) (by kernel_rfl) rfl (by decide)⟩⟩
theorem SQ:eP Tryz.prog 90 ⟨false,1,[.slice none 0 0],.sl 27 4 64 (.agg #[.bool false,.slice none 0 0,.bool false,.slice none 0 0])⟩:=⟨⟨.mk (by kernel_rfl) (by kernel_rfl),rfl⟩,.mk (by kernel_rfl),.mk (by kernel_rfl),⟨.mk (by kernel_rfl) (by kernel_rfl),.mk (by kernel_rfl) (by kernel_rfl) rfl (by decide)⟩⟩
theorem SR:eP Tryz.prog 93 ⟨true,4,[.bool false,.slice none 0 0,.bool false,.slice none 0 0],.st [(0,27,4)]⟩:=⟨.mk (by kernel_rfl) (by kernel_rfl),.mk (by kernel_rfl),.mk (by kernel_rfl),⟨⟨.mk (by kernel_rfl),.mk (by kernel_rfl),trivial⟩,.mk (by kernel_rfl)⟩⟩
theorem NO:eP Tryz.prog 101 ⟨true,1,[.string ⟨#[]⟩],.st [(0,9,1)]⟩:=⟨.mk (by kernel_rfl) (by kernel_rfl),.mk (by kernel_rfl),.mk (by kernel_rfl),⟨⟨.mk (by kernel_rfl),.mk (by kernel_rfl),trivial⟩,.mk (by kernel_rfl)⟩⟩
theorem NP:eP Tryz.prog 103 ⟨true,4,[.string ⟨#[]⟩,.bool false,.string ⟨#[]⟩,.string ⟨#[]⟩],.st [(0,101,1),(1,4,1),(2,9,1),(3,9,1)]⟩:=⟨.mk (by kernel_rfl) (by kernel_rfl),.mk (by kernel_rfl),.mk (by kernel_rfl),⟨⟨.mk (by kernel_rfl),.mk (by kernel_rfl),⟨.mk (by kernel_rfl),.mk (by kernel_rfl),⟨.mk (by kernel_rfl),.mk (by kernel_rfl),⟨.mk (by kernel_rfl),.mk (by kernel_rfl),trivial⟩⟩⟩⟩,.mk (by kernel_rfl)⟩⟩
theorem NQ:eP Tryz.prog 112 ⟨true,9,[.int .u8 0,.int .u8 0,.int .u8 0,.int .u8 0,.int .u8 0,.int .u8 0,.int .u8 0,.int .u8 0,.int .u8 0],.ar 9 1⟩:=⟨.mk (by kernel_rfl) (by kernel_rfl),.mk (by kernel_rfl),.mk (by kernel_rfl),TyArr.mk2 5 (by kernel_rfl) (by kernel_rfl)⟩
theorem NR:eP Tryz.prog 113 ⟨false,1,[.slice none 0 0],.sl 5 1 1 (.int .u8 0)⟩:=⟨⟨.mk (by kernel_rfl) (by kernel_rfl),rfl⟩,.mk (by kernel_rfl),.mk (by kernel_rfl),⟨.mk (by kernel_rfl) (by kernel_rfl),.mk (by kernel_rfl) (by kernel_rfl) rfl (by decide)⟩⟩
theorem NS:eP Tryz.prog 115 ⟨false,1,[.int .u32 0],.it .u32⟩:=⟨⟨.mk (by kernel_rfl) (by kernel_rfl),rfl⟩,.mk (by kernel_rfl),.mk (by kernel_rfl),.mk (by kernel_rfl)⟩
theorem NT:eP Tryz.prog 119 ⟨false,1,[.int .u64 0],.it .u64⟩:=⟨⟨.mk (by kernel_rfl) (by kernel_rfl),rfl⟩,.mk (by kernel_rfl),.mk (by kernel_rfl),.mk (by kernel_rfl)⟩
theorem NU:eP Tryz.prog 128 ⟨false,1,[.nilIface],.ot⟩:=⟨⟨.mk (by kernel_rfl) (by kernel_rfl),rfl⟩,.mk (by kernel_rfl),.mk (by kernel_rfl),trivial⟩
theorem NW:eP Tryz.prog 152 ⟨false,1,[.int .u64 0],.it .u64⟩:=⟨⟨.mk (by kernel_rfl) (by kernel_rfl),rfl⟩,.mk (by kernel_rfl),.mk (by kernel_rfl),.mk (by kernel_rfl)⟩
theorem NX:eP Tryz.prog 155 ⟨true,2,[.bool false,.slice none 0 0],.st [(0,25,2)]⟩:=⟨.mk (by kernel_rfl) (by kernel_rfl),.mk (by kernel_rfl),.mk (by kernel_rfl),⟨⟨.mk (by kernel_rfl),.mk (by kernel_rfl),trivial⟩,.mk (by kernel_rfl)⟩⟩
theorem NY:eP Tryz.prog 198 ⟨false,1,[.slice none 0 0],.sl 23 1 24 (.slice none 0 0)⟩:=⟨⟨.mk (by kernel_rfl) (by kernel_rfl),rfl⟩,.mk (by kernel_rfl),.mk (by kernel_rfl),⟨.mk (by kernel_rfl) (by kernel_rfl),.mk (by kernel_rfl) (by kernel_rfl) rfl (by decide)⟩⟩
theorem NZ:eP Tryz.prog 243 ⟨true,32,[.int .u8 0,.int .u8 0,.int .u8 0,.int .u8 0,.int .u8 0,.int .u8 0,.int .u8 0,.int .u8 0,.int .u8 0,.int .u8 0,.int .u8 0,.int .u8 0,.int .u8 0,.int .u8 0,.int .u8 0,.int .u8 0,.int .u8 0,.int .u8 0,.int .u8 0,.int .u8 0,.int .u8 0,.int .u8 0,.int .u8 0,.int .u8 0,.int .u8 0,.int .u8 0,.int .u8 0,.int .u8 0,.int .u8 0,.int .u8 0,.int .u8 0,.int .u8 0],.ar 32 1⟩:=⟨.mk (by kernel_rfl) (by kernel_rfl),.mk (by kernel_rfl),.mk (by kernel_rfl),TyArr.mk2 5 (by kernel_rfl) (by kernel_rfl)⟩
theorem OA:eP Tryz.prog 244 ⟨true,64,[.int .u8 0,.int .u8 0,.int .u8 0,.int .u8 0,.int .u8 0,.int .u8 0,.int .u8 0,.int .u8 0,.int .u8 0,.int .u8 0,.int .u8 0,.int .u8 0,.int .u8 0,.int .u8 0,.int .u8 0,.int .u8 0,.int .u8 0,.int .u8 0,.int .u8 0,.int .u8 0,.int .u8 0,.int .u8 0,.int .u8 0,.int .u8 0,.int .u8 0,.int .u8 0,.int .u8 0,.int .u8 0,.int .u8 0,.int .u8 0,.int .u8 0,.int .u8 0,.int .u8 0,.int .u8 0,.int .u8 0,.int .u8 0,.int .u8 0,.int .u8 0,.int .u8 0,.int .u8 0,.int .u8 0,.int .u8 0,.int .u8 0,.int .u8 0,.int .u8 0,.int .u8 0,.int .u8 0,.int .u8 0,.int .u8 0,.int .u8 0,.int .u8 0,.int .u8 0,.int .u8 0,.int .u8 0,.int .u8 0,.int .u8 0,.int .u8 0,.int .u8 0,.int .u8 0,.int .u8 0,.int .u8 0,.int .u8 0,.int .u8 0,.int .u8 0],.ar 64 1⟩:=⟨.mk (by kernel_rfl) (by kernel_rfl),.mk (by kernel_rfl),.mk (by kernel_rfl),TyArr.mk2 5 (by kernel_rfl) (by kernel_rfl)⟩
def ttab:List (Nat×TI):=[(2,⟨false,1,[.int .i64 0],.it .i64⟩),
 (3,⟨false,1,[.int .i64 0],.it .i64⟩),
 (4,⟨false,1,[.bool false],.bl⟩),
 (5,⟨false,1,[.int .u8 0],.it .u8⟩),
 (9,⟨false,1,[.string ⟨#[]⟩],.str⟩),
 (23,⟨false,1,[.slice none 0 0],.sl 115 1 4 (.int .u32 0)⟩),
 (25,⟨true,2,[.bool false,.slice none 0 0],.st [(0,4,1),(1,23,1)]⟩),
 (27,⟨true,4,[.bool false,.slice none 0 0,.bool false,.slice none 0 0],.st [(0,25,2),(2,25,2)]⟩),
 (28,⟨false,1,[.int .i64 0],.it .i64⟩),
 (31,⟨true,2,[.bool false,.slice none 0 0],.st [(0,4,1),(1,23,1)]⟩),
 (33,⟨true,4,[.bool false,.slice none 0 0,.bool false,.slice none 0 0],.st [(0,31,2),(2,31,2)]⟩),
 (54,⟨false,1,[.slice none 0 0],.sl 9 1 16 (.string ⟨#[]⟩)⟩),
 (55,⟨false,1,[.slice none 0 0],.sl 3 1 8 (.int .i64 0)⟩),
 (90,⟨false,1,[.slice none 0 0],.sl 27 4 64 (.agg #[.bool false,.slice none 0 0,.bool false,.slice none 0 0])⟩),
 (93,⟨true,4,[.bool false,.slice none 0 0,.bool false,.slice none 0 0],.st [(0,27,4)]⟩),
 (101,⟨true,1,[.string ⟨#[]⟩],.st [(0,9,1)]⟩),
 (103,⟨true,4,[.string ⟨#[]⟩,.bool false,.string ⟨#[]⟩,.string ⟨#[]⟩],.st [(0,101,1),(1,4,1),(2,9,1),(3,9,1)]⟩),
 (112,⟨true,9,[.int .u8 0,.int .u8 0,.int .u8 0,.int .u8 0,.int .u8 0,.int .u8 0,.int .u8 0,.int .u8 0,.int .u8 0],.ar 9 1⟩),
 (113,⟨false,1,[.slice none 0 0],.sl 5 1 1 (.int .u8 0)⟩),
 (115,⟨false,1,[.int .u32 0],.it .u32⟩),
 (119,⟨false,1,[.int .u64 0],.it .u64⟩),
 (128,⟨false,1,[.nilIface],.ot⟩),
 (152,⟨false,1,[.int .u64 0],.it .u64⟩),
 (155,⟨true,2,[.bool false,.slice none 0 0],.st [(0,25,2)]⟩),
 (198,⟨false,1,[.slice none 0 0],.sl 23 1 24 (.slice none 0 0)⟩),
 (243,⟨true,32,[.int .u8 0,.int .u8 0,.int .u8 0,.int .u8 0,.int .u8 0,.int .u8 0,.int .u8 0,.int .u8 0,.int .u8 0,.int .u8 0,.int .u8 0,.int .u8 0,.int .u8 0,.int .u8 0,.int .u8 0,.int .u8 0,.int .u8 0,.int .u8 0,.int .u8 0,.int .u8 0,.int .u8 0,.int .u8 0,.int .u8 0,.int .u8 0,.int .u8 0,.int .u8 0,.int .u8 0,.int .u8 0,.int .u8 0,.int .u8 0,.int .u8 0,.int .u8 0],.ar 32 1⟩),
 (244,⟨true,64,[.int .u8 0,.int .u8 0,.int .u8 0,.int .u8 0,.int .u8 0,.int .u8 0,.int .u8 0,.int .u8 0,.int .u8 0,.int .u8 0,.int .u8 0,.int .u8 0,.int .u8 0,.int .u8 0,.int .u8 0,.int .u8 0,.int .u8 0,.int .u8 0,.int .u8 0,.int .u8 0,.int .u8 0,.int .u8 0,.int .u8 0,.int .u8 0,.int .u8 0,.int .u8 0,.int .u8 0,.int .u8 0,.int .u8 0,.int .u8 0,.int .u8 0,.int .u8 0,.int .u8 0,.int .u8 0,.int .u8 0,.int .u8 0,.int .u8 0,.int .u8 0,.int .u8 0,.int .u8 0,.int .u8 0,.int .u8 0,.int .u8 0,.int .u8 0,.int .u8 0,.int .u8 0,.int .u8 0,.int .u8 0,.int .u8 0,.int .u8 0,.int .u8 0,.int .u8 0,.int .u8 0,.int .u8 0,.int .u8 0,.int .u8 0,.int .u8 0,.int .u8 0,.int .u8 0,.int .u8 0,.int .u8 0,.int .u8 0,.int .u8 0,.int .u8 0],.ar 64 1⟩)]
theorem aA:bQ Tryz.prog ttab:=⟨TZ,UA,UB,UC,UD,SI,SJ,SK,SL,SM,SN,SO,SP,SQ,SR,NO,NP,NQ,NR,NS,NT,NU,NW,NX,NY,NZ,OA,trivial⟩
theorem IQ:CallOk Tryz.prog 7:=.mk Tryz.func7 (by decide) rfl
theorem TR:CallOk Tryz.prog 8:=.mk Tryz.func8 (by decide) rfl
theorem PS:CallOk Tryz.prog 9:=.mk Tryz.func9 (by decide) rfl
theorem Ny:CallOk Tryz.prog 10:=.mk Tryz.func10 (by decide) rfl
theorem RP:CallOk Tryz.prog 13:=.mk Tryz.func13 (by decide) rfl
theorem RS:CallOk Tryz.prog 15:=.mk Tryz.func15 (by decide) rfl
theorem Ni:CallOk Tryz.prog 16:=.mk Tryz.func16 (by decide) rfl
theorem Vx:CallOk Tryz.prog 17:=.mk Tryz.func17 (by decide) rfl
theorem Nz:CallOk Tryz.prog 18:=.mk Tryz.func18 (by decide) rfl
theorem Vz:CallOk Tryz.prog 19:=.mk Tryz.func19 (by decide) rfl
theorem RT:CallOk Tryz.prog 20:=.mk Tryz.func20 (by decide) rfl
theorem RU:CallOk Tryz.prog 21:=.mk Tryz.func21 (by decide) rfl
theorem jL:CallOk Tryz.prog 22:=.mk Tryz.func22 (by decide) rfl
theorem GO:CallOk Tryz.prog 23:=.mk Tryz.func23 (by decide) rfl
theorem zZ:CallOk Tryz.prog 27:=.mk Tryz.func27 (by decide) rfl
theorem GN:CallOk Tryz.prog 29:=.mk Tryz.func29 (by decide) rfl
theorem pN:CallOk Tryz.prog 30:=.mk Tryz.func30 (by decide) rfl
theorem Vb:CallOk Tryz.prog 31:=.mk Tryz.func31 (by decide) rfl
theorem QE:CallOk Tryz.prog 32:=.mk Tryz.func32 (by decide) rfl
theorem RG:CallOk Tryz.prog 33:=.mk Tryz.func33 (by decide) rfl
theorem mZ:CallOk Tryz.prog 34:=.mk Tryz.func34 (by decide) rfl
theorem Vt:CallOk Tryz.prog 35:=.mk Tryz.func35 (by decide) rfl
theorem rQ:CallOk Tryz.prog 36:=.mk Tryz.func36 (by decide) rfl
theorem Fu:CallOk Tryz.prog 37:=.mk Tryz.func37 (by decide) rfl
theorem IP:CallOk Tryz.prog 39:=.mk Tryz.func39 (by decide) rfl
theorem QR:CallOk Tryz.prog 40:=.mk Tryz.func40 (by decide) rfl
theorem QS:CallOk Tryz.prog 41:=.mk Tryz.func41 (by decide) rfl
theorem QT:CallOk Tryz.prog 42:=.mk Tryz.func42 (by decide) rfl
theorem Ns:CallOk Tryz.prog 43:=.mk Tryz.func43 (by decide) rfl
theorem pJ:CallOk Tryz.prog 44:=.mk Tryz.func44 (by decide) rfl
theorem Vs:CallOk Tryz.prog 45:=.mk Tryz.func45 (by decide) rfl
theorem Vn:CallOk Tryz.prog 46:=.mk Tryz.func46 (by decide) rfl
theorem Np:CallOk Tryz.prog 47:=.mk Tryz.func47 (by decide) rfl
theorem jN:CallOk Tryz.prog 48:=.mk Tryz.func48 (by decide) rfl
theorem Vk:CallOk Tryz.prog 49:=.mk Tryz.func49 (by decide) rfl
theorem rM:CallOk Tryz.prog 50:=.mk Tryz.func50 (by decide) rfl
theorem lP:CallOk Tryz.prog 51:=.mk Tryz.func51 (by decide) rfl
theorem rL:CallOk Tryz.prog 52:=.mk Tryz.func52 (by decide) rfl
theorem RN:CallOk Tryz.prog 53:=.mk Tryz.func53 (by decide) rfl
theorem QU:CallOk Tryz.prog 54:=.mk Tryz.func54 (by decide) rfl
theorem QV:CallOk Tryz.prog 55:=.mk Tryz.func55 (by decide) rfl
theorem Nh:CallOk Tryz.prog 56:=.mk Tryz.func56 (by decide) rfl
theorem QX:CallOk Tryz.prog 57:=.mk Tryz.func57 (by decide) rfl
theorem QW:CallOk Tryz.prog 58:=.mk Tryz.func58 (by decide) rfl
theorem RQ:CallOk Tryz.prog 59:=.mk Tryz.func59 (by decide) rfl
theorem fD:CallOk Tryz.prog 60:=.mk Tryz.func60 (by decide) rfl
theorem wI:CallOk Tryz.prog 61:=.mk Tryz.func61 (by decide) rfl
theorem wK:CallOk Tryz.prog 62:=.mk Tryz.func62 (by decide) rfl
theorem My:CallOk Tryz.prog 63:=.mk Tryz.func63 (by decide) rfl
theorem Ux:CallOk Tryz.prog 64:=.mk Tryz.func64 (by decide) rfl
theorem rF:CallOk Tryz.prog 65:=.mk Tryz.func65 (by decide) rfl
theorem PZ:CallOk Tryz.prog 66:=.mk Tryz.func66 (by decide) rfl
theorem PY:CallOk Tryz.prog 70:=.mk Tryz.func70 (by decide) rfl
theorem zS:CallOk Tryz.prog 72:=.mk Tryz.func72 (by decide) rfl
theorem RR:CallOk Tryz.prog 73:=.mk Tryz.func73 (by decide) rfl
theorem RE:CallOk Tryz.prog 77:=.mk Tryz.func77 (by decide) rfl
theorem RF:CallOk Tryz.prog 78:=.mk Tryz.func78 (by decide) rfl
theorem QZ:CallOk Tryz.prog 79:=.mk Tryz.func79 (by decide) rfl
theorem oF:CallOk Tryz.prog 80:=.mk Tryz.func80 (by decide) rfl
theorem iT:CallOk Tryz.prog 81:=.mk Tryz.func81 (by decide) rfl
theorem QY:CallOk Tryz.prog 82:=.mk Tryz.func82 (by decide) rfl
theorem QM:CallOk Tryz.prog 83:=.mk Tryz.func83 (by decide) rfl
theorem QO:CallOk Tryz.prog 84:=.mk Tryz.func84 (by decide) rfl
theorem QN:CallOk Tryz.prog 85:=.mk Tryz.func85 (by decide) rfl
theorem SS:CallOk Tryz.prog 86:=.mk Tryz.func86 (by decide) rfl
theorem ST:CallOk Tryz.prog 87:=.mk Tryz.func87 (by decide) rfl
theorem SU:CallOk Tryz.prog 88:=.mk Tryz.func88 (by decide) rfl
theorem Uz:CallOk Tryz.prog 89:=.mk Tryz.func89 (by decide) rfl
theorem QL:CallOk Tryz.prog 90:=.mk Tryz.func90 (by decide) rfl
theorem No:CallOk Tryz.prog 96:=.mk Tryz.func96 (by decide) rfl
theorem lQ:CallOk Tryz.prog 97:=.mk Tryz.func97 (by decide) rfl
theorem JM:CallOk Tryz.prog 98:=.mk Tryz.func98 (by decide) rfl
theorem Au:CallOk Tryz.prog 99:=.mk Tryz.func99 (by decide) rfl
theorem cA:CallOk Tryz.prog 100:=.mk Tryz.func100 (by decide) rfl
theorem eC:CallOk Tryz.prog 101:=.mk Tryz.func101 (by decide) rfl
theorem OB:CallOk Tryz.prog 102:=.mk Tryz.func102 (by decide) rfl
theorem Oo:CallOk Tryz.prog 103:=.mk Tryz.func103 (by decide) rfl
theorem OC:CallOk Tryz.prog 104:=.mk Tryz.func104 (by decide) rfl
theorem Zk:CallOk Tryz.prog 105:=.mk Tryz.func105 (by decide) rfl
theorem MS:CallOk Tryz.prog 106:=.mk Tryz.func106 (by decide) rfl
theorem MQ:CallOk Tryz.prog 107:=.mk Tryz.func107 (by decide) rfl
theorem MP:CallOk Tryz.prog 108:=.mk Tryz.func108 (by decide) rfl
theorem Mz:CallOk Tryz.prog 109:=.mk Tryz.func109 (by decide) rfl
theorem Db:CallOk Tryz.prog 110:=.mk Tryz.func110 (by decide) rfl
theorem OD:CallOk Tryz.prog 116:=.mk Tryz.func116 (by decide) rfl
theorem jV:CallOk Tryz.prog 117:=.mk Tryz.func117 (by decide) rfl
theorem cP:CallOk Tryz.prog 118:=.mk Tryz.func118 (by decide) rfl
theorem Yh:CallOk Tryz.prog 119:=.mk Tryz.func119 (by decide) rfl
theorem Da:CallOk Tryz.prog 120:=.mk Tryz.func120 (by decide) rfl
theorem Zl:CallOk Tryz.prog 121:=.mk Tryz.func121 (by decide) rfl
theorem OE:CallOk Tryz.prog 122:=.mk Tryz.func122 (by decide) rfl
theorem Ms:CallOk Tryz.prog 125:=.mk Tryz.func125 (by decide) rfl
theorem MF:CallOk Tryz.prog 126:=.mk Tryz.func126 (by decide) rfl
theorem MG:CallOk Tryz.prog 127:=.mk Tryz.func127 (by decide) rfl
theorem Nq:CallOk Tryz.prog 129:=.mk Tryz.func129 (by decide) rfl
theorem Yt:CallOk Tryz.prog 130:=.mk Tryz.func130 (by decide) rfl
theorem Nm:CallOk Tryz.prog 131:=.mk Tryz.func131 (by decide) rfl
theorem Zm:CallOk Tryz.prog 132:=.mk Tryz.func132 (by decide) rfl
theorem Nl:CallOk Tryz.prog 133:=.mk Tryz.func133 (by decide) rfl
theorem MR:CallOk Tryz.prog 134:=.mk Tryz.func134 (by decide) rfl
theorem ML:CallOk Tryz.prog 135:=.mk Tryz.func135 (by decide) rfl
theorem MK:CallOk Tryz.prog 136:=.mk Tryz.func136 (by decide) rfl
theorem MH:CallOk Tryz.prog 137:=.mk Tryz.func137 (by decide) rfl
theorem yX:CallOk Tryz.prog 148:=.mk Tryz.func148 (by decide) rfl
theorem OF:CallOk Tryz.prog 149:=.mk Tryz.func149 (by decide) rfl
theorem OG:CallOk Tryz.prog 150:=.mk Tryz.func150 (by decide) rfl
theorem OH:CallOk Tryz.prog 151:=.mk Tryz.func151 (by decide) rfl
theorem pB:CallOk Tryz.prog 152:=.mk Tryz.func152 (by decide) rfl
theorem nH:CallOk Tryz.prog 153:=.mk Tryz.func153 (by decide) rfl
theorem Dh:CallOk Tryz.prog 154:=.mk Tryz.func154 (by decide) rfl
theorem MN:CallOk Tryz.prog 155:=.mk Tryz.func155 (by decide) rfl
theorem Mx:CallOk Tryz.prog 156:=.mk Tryz.func156 (by decide) rfl
theorem Yf:CallOk Tryz.prog 157:=.mk Tryz.func157 (by decide) rfl
theorem xS:CallOk Tryz.prog 158:=.mk Tryz.func158 (by decide) rfl
theorem Zo:CallOk Tryz.prog 162:=.mk Tryz.func162 (by decide) rfl
theorem Ym:CallOk Tryz.prog 163:=.mk Tryz.func163 (by decide) rfl
theorem Cw:CallOk Tryz.prog 164:=.mk Tryz.func164 (by decide) rfl
theorem uV:CallOk Tryz.prog 165:=.mk Tryz.func165 (by decide) rfl
theorem xQ:CallOk Tryz.prog 166:=.mk Tryz.func166 (by decide) rfl
theorem MJ:CallOk Tryz.prog 167:=.mk Tryz.func167 (by decide) rfl
theorem OI:CallOk Tryz.prog 171:=.mk Tryz.func171 (by decide) rfl
theorem Zp:CallOk Tryz.prog 172:=.mk Tryz.func172 (by decide) rfl
theorem OJ:CallOk Tryz.prog 173:=.mk Tryz.func173 (by decide) rfl
theorem OK:CallOk Tryz.prog 174:=.mk Tryz.func174 (by decide) rfl
theorem Oq:CallOk Tryz.prog 175:=.mk Tryz.func175 (by decide) rfl
theorem OL:CallOk Tryz.prog 178:=.mk Tryz.func178 (by decide) rfl
theorem mixed:Tryz.prog.follows .mixedOrders=true:=by kernel_rfl
section
variable {x:Cx}{g:Nat→FV}{ob ob':List (Option Ob)}{Q:Post}{ops:Array Oper}{rest:List Oper}{d:Nat}{op:Op}{ty:TypeId}{pos:String}{af:Array Edge}{gd:Option (Nat×Bool)}{C:Prop}{v:FV}
theorem o1 (k:WL x ops rest (aZ g d v) ob Q) (hT:bQ x.P ttab:=by exact aA) (hw:aY ops x.n g gd=some true:=by rfl) (h:sW ttab x.n g op=some (C,v):=by rfl) (hC:C:=by first | trivial | omega | (simp only[fP];omega)):WL x ops (⟨some d,op,ty,pos,af,gd⟩::rest) g ob Q:=TT hT hw h hC k
theorem ld {t:Nat}{i:TI}{a:Operand}(k:WL x ops rest (aZ g d v) ob Q) (hT:bQ x.P ttab:=by exact aA) (hw:aY ops x.n g gd=some true:=by rfl) (hi:bB ttab t=some i:=by rfl) (h:qM ob i (lk x.n g a)=some (C,v):=by rfl):WL x ops (⟨some d,.load t a,ty,pos,af,gd⟩::rest) g ob Q:=JG hT hw hi h k
theorem kR {t:Nat}{i:TI}{a:Operand}{l:List Tr}{of:Nat}(us:List Tr) (hl:(l.drop of).take us.length=us) (k:WL x ops rest (aZ g d v) ob Q) (hT:bQ x.P ttab:=by exact aA) (hw:aY ops x.n g gd=some true:=by rfl) (hi:bB ttab t=some i:=by rfl) (h:lk x.n g a=.one (.ef l of):=by rfl) (hv:Gc i us=some v:=by rfl):WL x ops (⟨some d,.load t a,ty,pos,af,gd⟩::rest) g ob Q:=NL hT hw hi h hl hv k
theorem al {t:Nat}(key:Nat) (k:WL x ops rest (aZ g d (.one (.pt key 0))) ob' Q) (hT:bQ x.P ttab:=by exact aA) (hw:aY ops x.n g gd=some true:=by rfl) (h:Ak ttab t key ob=some ob':=by rfl):WL x ops (⟨some d,.alloc t,ty,pos,af,gd⟩::rest) g ob Q:=SD hT hw h k
theorem bx {t:Nat}{a:Operand}(key:Nat) (k:WL x ops rest (aZ g d (.one (.pt key 0))) ob' Q) (hw:aY ops x.n g gd=some true:=by rfl) (h:Oh t key (lk x.n g a) ob=some ob':=by rfl):WL x ops (⟨some d,.box t a,ty,pos,af,gd⟩::rest) g ob Q:=SE hw h k
theorem st {t:Nat}{i:TI}{a b:Operand}(k:WL x ops rest g ob' Q) (hT:bQ x.P ttab:=by exact aA) (hw:aY ops x.n g gd=some true:=by rfl) (hi:bB ttab t=some i:=by rfl) (h:tK i ob (lk x.n g b) (lk x.n g a)=some ob':=by rfl):WL x ops (⟨none,.store t a b,ty,pos,af,gd⟩::rest) g ob Q:=SF hT hw hi h k
theorem bs {t len:Nat}{ps:Array (Nat×Operand)}(key:Nat) (k:WL x ops rest (aZ g d (.one (.sl key 0 len))) ob' Q) (hT:bQ x.P ttab:=by exact aA) (hw:aY ops x.n g gd=some true:=by rfl) (h:Gq ttab x.n g t len key ps.toList ob=some ob':=by rfl):WL x ops (⟨some d,.buildSlice t len ps,ty,pos,af,gd⟩::rest) g ob Q:=SG hT hw h k
theorem cH {o:Oper}(k:WL x ops rest (aZ g d (.one (tv undef))) ob Q) (hw:aY ops x.n g o.guard=some false:=by rfl) (hd:o.dst=some d:=by rfl):WL x ops (o::rest) g ob Q:=SC hw hd k
theorem ca {fresh:Bool}{f:FuncId}{args:List FV}{r:FV}{aa:Array Operand}{ats:Array TypeId}(hS:aE fresh x.P f [] args (aN r)) (hf:CallOk x.P f) (ha:AL fresh x g ob aa.toList args) (v:FV) (k:WL x ops rest (aZ g d v) ob Q) (hw:aY ops x.n g gd=some true:=by rfl) (hv:vW r=v:=by rfl):
  WL x ops (⟨some d,.call ⟨.value (.func f),aa,ats⟩,ty,pos,af,gd⟩::rest) g ob Q:=JI hw hS hf ha hv k
variable {late:Nat→Bool}{K fr:List Nat}{on:Bool}{fuel:Nat}{listed:Array Bool}
theorem dv (i:Nat) (k:WD x ops Q late K fr true fuel (listed.setIfInBounds i true) (aZ g d v) ob) (hT:bQ x.P ttab:=by exact aA) (hi:ops[i]? =some ⟨some d,op,ty,pos,af,gd⟩:=by rfl) (hst:kA ops late listed i=true:=by kernel_rfl) (hw:aY ops x.n g gd=some true:=by rfl) (h:sW ttab x.n (kX fr g) op=some (C,v):=by rfl) (hC:C:=by first | trivial | omega | (simp only[fP];omega)) (hg:sW ttab x.n g op=some (C,v):=by rfl):WD x ops Q late K fr true (fuel+1) listed g ob:=dt i hT hi hst hw h hC hg k
theorem df (i:Nat) (k:WD x ops Q late K (d::fr) true fuel (listed.setIfInBounds i true) (aZ g d v) ob) (hT:bQ x.P ttab:=by exact aA) (hi:ops[i]? =some ⟨some d,op,ty,pos,af,gd⟩:=by rfl) (hst:kA ops late listed i=true:=by kernel_rfl) (hw:aY ops x.n g gd=some true:=by rfl) (h:sW ttab x.n g op=some (C,v):=by rfl) (hC:C:=by first | trivial | omega | (simp only[fP];omega)):WD x ops Q late K fr true (fuel+1) listed g ob:=TU i hT hi hst hw h hC k
theorem aW {t:Nat}{ti:TI}{a:Operand}{key off:Nat}(i:Nat) (k:WD x ops Q late K fr true fuel (listed.setIfInBounds i true) (aZ g d v) ob) (hT:bQ x.P ttab:=by exact aA) (hi:ops[i]? =some ⟨some d,.load t a,ty,pos,af,gd⟩:=by rfl) (hst:kA ops late listed i=true:=by kernel_rfl) (hw:aY ops x.n g gd=some true:=by rfl) (hti:bB ttab t=some ti:=by rfl) (hlk:lk x.n g a=.one (.pt key off):=by rfl) (hK:K.contains key=true:=by rfl) (h:qM ob ti (.one (.pt key off))=some (C,v):=by rfl):WD x ops Q late K fr true (fuel+1) listed g ob:=dl i hT hi hst hw hti hlk hK h k
theorem pE {t:Nat}{ti:TI}{a:Operand}{l:List Tr}{of:Nat}(i:Nat) (us:List Tr) (hl:(l.drop of).take us.length=us) (k:WD x ops Q late K fr true fuel (listed.setIfInBounds i true) (aZ g d v) ob) (hT:bQ x.P ttab:=by exact aA) (hi:ops[i]? =some ⟨some d,.load t a,ty,pos,af,gd⟩:=by rfl) (hst:kA ops late listed i=true:=by kernel_rfl) (hw:aY ops x.n g gd=some true:=by rfl) (hti:bB ttab t=some ti:=by rfl) (hlk:lk x.n (kX fr g) a=.one (.ef l of):=by rfl) (hv:Gc ti us=some v:=by rfl):WD x ops Q late K fr true (fuel+1) listed g ob:=TV i hT hi hst hw hti hlk hl hv k
theorem dH (i:Nat) (k:WD x ops Q late K fr true fuel (listed.setIfInBounds i true) (aZ g d (.one (tv undef))) ob) (hi:ops[i]? =some ⟨some d,op,ty,pos,af,gd⟩:=by rfl) (hst:kA ops late listed i=true:=by kernel_rfl) (hw:aY ops x.n g gd=some false:=by rfl):WD x ops Q late K fr true (fuel+1) listed g ob:=dn i hi hst hw k
theorem aJ {fresh:Bool}{f:FuncId}{args:List FV}{r:FV}{aa:Array Operand}{ats:Array TypeId}(i:Nat) (hi:ops[i]? =some ⟨some d,.call ⟨.value (.func f),aa,ats⟩,ty,pos,af,gd⟩) (hS:aE fresh x.P f [] args (aN r)) (hf:CallOk x.P f) (ha:AL fresh x g ob aa.toList args) (v:FV) (k:WD x ops Q late K (d::fr) true fuel (listed.setIfInBounds i true) (aZ g d v) ob) (hr:Region.ready .any ops listed=[i]:=by kernel_rfl) (hw:aY ops x.n g gd=some true:=by rfl) (hv:vW r=v:=by rfl):WD x ops Q late K fr true (fuel+1) listed g ob:=JK i hr hi hw hS hf ha hv k
theorem cU {fresh:Bool}{f:FuncId}{args:List FV}{r:FV}{aa:Array Operand}{ats:Array TypeId}(i:Nat) (hi:ops[i]? =some ⟨some d,.call ⟨.value (.func f),aa,ats⟩,ty,pos,af,gd⟩) (hS:aE fresh x.P f [] args (aN r)) (hf:CallOk x.P f) (ha:AL fresh x g ob aa.toList args) (v:FV) (k:WD x ops Q late K (d::fr) true fuel (listed.setIfInBounds i true) (aZ g d v) ob) (hw:aY ops x.n g gd=some true:=by rfl) (hv:vW r=v:=by rfl):WO x ops Q late K fr true fuel listed i g ob:=JL i hi hw hS hf ha hv k
theorem dst {t:Nat}{ti:TI}{a b:Operand}(i:Nat) (k:WD x ops Q late K fr false fuel (listed.setIfInBounds i true) g ob') (hT:bQ x.P ttab:=by exact aA) (hr:Region.ready .any ops listed=[i]:=by kernel_rfl) (hi:ops[i]? =some ⟨none,.store t a b,ty,pos,af,gd⟩:=by rfl) (hw:aY ops x.n g gd=some true:=by rfl) (hti:bB ttab t=some ti:=by rfl) (h:tK ti ob (lk x.n g b) (lk x.n g a)=some ob':=by rfl) (hl:late i=true:=by rfl):WD x ops Q late K fr on (fuel+1) listed g ob:=SH i hr hi hw hT hti h hl k
theorem gH {fresh:Bool}{f:FuncId}{args:List FV}{r:FV}{os:List Ob}{aa:Array Operand}{ats:Array TypeId}(key:Nat) (hS:aE fresh x.P f [] args (aN r)) (hf:CallOk x.P f) (ha:AL fresh x g ob aa.toList args) (k:WL x ops rest (aZ g d v) (ob++os.map some) Q) (hw:aY ops x.n g gd=some true:=by rfl) (hk:dT ob key=true:=by rfl) (hb:kP key r=some (v,os):=by rfl):
  WL x ops (⟨some d,.call ⟨.value (.func f),aa,ats⟩,ty,pos,af,gd⟩::rest) g ob Q:=CU hw hS hf ha hk hb k
theorem oT {fresh:Bool}{f:FuncId}{args:List FV}{r:FV}{os:List Ob}{aa:Array Operand}{ats:Array TypeId}(key i:Nat) (hi:ops[i]? =some ⟨some d,.call ⟨.value (.func f),aa,ats⟩,ty,pos,af,gd⟩) (hS:aE fresh x.P f [] args (aN r)) (hf:CallOk x.P f) (ha:AL fresh x g ob aa.toList args) (k:WD x ops Q late K (d::fr) true fuel (listed.setIfInBounds i true) (aZ g d v) (ob++os.map some)) (hr:Region.ready .any ops listed=[i]:=by kernel_rfl) (hw:aY ops x.n g gd=some true:=by rfl) (hk:dT ob key=true:=by rfl) (hb:kP key r=some (v,os):=by rfl) (hK:JJ K ob=true:=by rfl):WD x ops Q late K fr true (fuel+1) listed g ob:=CV i hr hi hw hS hf ha hk hb hK k
theorem aU (h:Q .normal g ob) (hr:Region.ready .any ops listed=[]:=by kernel_rfl):WD x ops Q late K fr on fuel listed g ob:=dz hr h
end
theorem Sc {β:Type}:∀{o:Nat}{l:List AV}{a:AV}{r:List AV}{k:List AV→Option β},l.drop o=a::r→dp o l k=k (a::r)
 | 0,l,a,r,k,h=>by rw[List.drop_zero]at h;subst h;rfl
 | o+1,[],a,r,k,h=>by simp at h
 | o+1,b::l,a,r,k,h=>by
  rw[List.drop_succ_cons]at h
  exact Sc (o:=o) h
theorem Gv {ob:List (Option Ob)}{i:TI}{k o t z:Nat}{l:List AV}{a:AV}(ho:bU ob k=some ⟨t,z,l⟩) (hx:l[o]? =some a) (ha:i.agg=false) (hr:mU a=true):qM ob i (.one (.pt k o))=some (True,.one a):=by
 obtain⟨h1,h2⟩:=List.getElem?_eq_some_iff.1 hx
 have h3:l.drop o=a::l.drop (o+1):=by rw[List.drop_eq_getElem_cons h1,h2]
 unfold qM
 dsimp only
 rw[ho]
 dsimp only
 unfold JD
 rw[Sc h3,ha]
 simp[Gb,eG,hr,ev]
section
variable {x:Cx}{g:Nat→FV}{ob ob':List (Option Ob)}{Q:Post}{ops:Array Oper}{rest:List Oper}{d:Nat}{ty:TypeId}{pos:String}{af:Array Edge}{gd:Option (Nat×Bool)}{T:List (Nat×TI)}
theorem OM {t e by_ k m:Nat}{ti:Bool}{ts0:Nat}{z0:List Value}{kk k1 k2:IntKind}{a b:Operand}(hT:bQ x.P T) (ht:bB T t=some ⟨ti,ts0,z0,.sl e 1 by_ (.int kk 0)⟩) (ha:lk x.n g a=.one (tv (.int k1 (m:Int)))) (hb:lk x.n g b=.one (tv (.int k2 (m:Int)))) (hby:by_≤16) (hm:m≤8796093022208) (hk:dT ob k=true):
  OS x ⟨some d,.makeSlice t a b,ty,pos,af,gd⟩ g ob [] (fun g' ob2=>g'=aZ g d (.one (.sl k 0 m))∧ob2=ob++[some ⟨e,1,(List.replicate m (Value.int kk 0)).map tv⟩]):=by
 obtain⟨_,hel⟩:=(cG hT ht).2.2.2
 obtain⟨hu,i,hi,hz,hsize,hby',hzs,hsz⟩:=hel
 subst hby'
 have hk:=Nat.eq_of_beq_eq_true hk
 subst hk
 intro cs ts W hR K Q' kk'
 have e1:=hR.lk a
 rw[ha]at e1
 have e1:=aT e1
 have e2:=hR.lk b
 rw[hb]at e2
 have e2:=aT e2
 have hmul:i.bytes*m≤16*8796093022208:=Nat.mul_le_mul hby hm
 obtain⟨w',hrun,h1,h2⟩:=run_make_full (P:=x.P) W 0 t e i (.int kk 0) 1 hu hi hz hsize k1 k2 m (by omega) (by unfold maxLen;omega) (Nat.zero_le _)
 have hrun':(execOp (Act.eval ⟨ts,[]⟩) ⟨some d,.makeSlice t a b,ty,pos,af,gd⟩).run x.P W=.ok (.value (.slice (some ⟨W.heap.size,0,none⟩) m m)) w':=by
  simp[execOp,e1,e2,hrun]
 have e0:(madeCells (Value.int kk 0).cells (m*1)).toList=List.replicate m (.int kk 0):=by
  rw[Nat.mul_one]
  show(madeCells #[Value.int kk 0] m).toList=_
  rw[toList_madeCells_one]
 rw[e0]at h1
 generalize hus:List.replicate m (Value.int kk 0)=us at h1 kk'
 have hbl:Below W.heap.size W w':=(Below.refl _ _).grown h2 (Nat.le_refl _) (fun k hk=>by cases hk)
 rcases h1.2 with⟨hh,_⟩ | ⟨g1,cap,cur,hv,_,hg,hnc,hcm,hcs,htake⟩
 ·injection hh with h3;cases h3
 injection hv with q1 q2 q3
 injection q1 with q1
 injection q1 with q1
 subst q1 q3
 have hlt:W.heap.size<w'.heap.size:=(Array.getElem?_eq_some_iff.1 hg).1
 have hcur:cur.toList=us:=by
  have h9:cur.toList.length=m*1:=by simpa using hcs
  rw[←htake,List.take_of_length_le (by omega)]
 have hS:∀b∈(aP (some ⟨e,1,us.map tv⟩) ⟨some W.heap.size,m,us.map .w⟩).S,W.heap.size≤b∧b<w'.heap.size:=by
  intro b hb
  simp[aP,jD]at hb
  subst hb
  exact⟨Nat.le_refl _,hlt⟩
 have hown:∀b∈cC (ob++[some ⟨e,1,us.map tv⟩]) (cs++[⟨some W.heap.size,m,us.map .w⟩]),b∈cC ob cs∨W.heap.size≤b:=by
  intro b hb
  unfold cC aK at hb
  rw[List.zipWith_append hR.len,List.flatMap_append,List.mem_append]at hb
  rcases hb with hb | hb
  ·exact .inl hb
  exact .inr (hS b (by simpa using hb)).1
 have m1:RelC x g (ob++[some ⟨e,1,us.map tv⟩]) (cs++[⟨some W.heap.size,m,us.map .w⟩]) ts w':=by
  refine hR.push hbl _ _ ?_ hS (by simp[aP,jD]) ?_ (fun e=>by cases e)
  ·have hul:us.length=m:=by rw[←hus,List.length_replicate]
   simp only[aP,oY]
   refine⟨⟨[],?_,by simp[hul]⟩,oZ _,hcm⟩
   rw[List.append_nil,hg,←hcur]
  exact oD (jS _) (qE _)
 refine dN hrun' (kk' _ _ _ _ _ ⟨rfl,rfl⟩ (m1.put d ?_) ((Aft.mk .app (fun k _ hk=>mO hk) hbl.size (fun b hlt _=>hbl.block b hlt) hown (fun _ _=>rfl):Aft [] (some d) ob cs ts W _ _ ts w').then_put _))
 refine eV ?_
 simp only[AR]
 rw[hR.len,fL]
 exact⟨by simp[hR.len],0,m,rfl,Nat.le_refl _,hcm,fun _=>rfl,fun _=>rfl⟩
inductive FzN (key:Nat):List AV→List AV→Prop
 | nil:FzN key [] []
 | id {a:AV}{l l':List AV}(h:FzN key l l'):FzN key (a::l) (a::l')
 | sl {l l':List AV}(h:FzN key l l'):FzN key (tv (.slice none 0 0)::l) (.sl key 0 0::l')
theorem FzN.ok {key:Nat}{W:World}{N:Nat→Prop}{cs:List Co}(hk:key<cs.length) (hb:(co cs key).b=none):∀{l l':List AV},FzN key l l'→∀{ys:List VT},bJ W N cs l ys→bJ W N cs l' ys
 | _,_,.nil,ys,h=>h
 | _,_,.id h',[],h=>by simp only[bJ]at h
 | _,_,.id h',y::ys,h=>by
  simp only[bJ]at h⊢
  exact⟨h.1,FzN.ok hk hb h' h.2⟩
 | _,_,.sl h',[],h=>by simp only[bJ]at h
 | _,_,.sl h',y::ys,h=>by
  simp only[bJ]at h⊢
  refine⟨?_,FzN.ok hk hb h' h.2⟩
  have h1:=h.1
  simp only[tv,CR,OR]at h1
  subst h1
  simp only[CR,AR,hb]
  exact⟨hk,trivial,trivial,trivial⟩
theorem FzN.nl {key:Nat}:∀{l l':List AV},FzN key l l'→(l=[]↔l'=[])
 | _,_,.nil=>Iff.rfl
 | _,_,.id h'=>by simp
 | _,_,.sl h'=>by simp
theorem PK {j key e z t' z':Nat}{l l':List AV}(hz:Nat.beq z 0=false) (hk:dT ob key=true) (ho:bU ob j=some ⟨t',z',l⟩) (hl:FzN key l l'):Sub x g ob g (ob.set j (some ⟨t',z',l'⟩)++[some ⟨e,z,[]⟩]):=by
 rintro ts W ⟨cs,hR⟩
 have hk:=Nat.eq_of_beq_eq_true hk
 have hj:=cT ho
 have hz0:z≠0:=fun e=>by subst e;simp at hz
 have hlt:=(List.getElem?_eq_some_iff.1 hj).1
 have m1:=hR.push (Below.refl _ _) ⟨e,z,[]⟩ ⟨none,0,[]⟩ (by simp[aP]) (by simp[aP]) (by simp[aP]) (by simp[bJ]) (fun _=>⟨rfl,hz0⟩)
 have hj':(ob++[some ⟨e,z,[]⟩])[j]? =some (some ⟨t',z',l⟩):=by rw[List.getElem?_append_left hlt];exact hj
 have hb0:(co (cs++[⟨none,0,[]⟩]) key).b=none:=by rw[←hk,hR.len,fL]
 have hkl:key<(cs++[(⟨none,0,[]⟩:Co)]).length:=by rw[←hk,hR.len];simp
 have hm:=m1.obs.2 j _ hj'
 have hup:=m1.upd hj' ⟨t',z',l'⟩ (co (cs++[⟨none,0,[]⟩]) j) (Chg.refl _ _) rfl rfl (by rw[iY l' l];exact m1.res hj') (fun b hb=>.inl (by rw[iY l l'];exact hb)) (by rw[iY l' l];exact m1.2.nd1 (List.mem_of_getElem? (bI m1.len hj')))
  (fun h1 h2 h3=>by
   have h4:bJ W (x.fr W (ob++[some ⟨e,z,[]⟩]) (cs++[⟨none,0,[]⟩])) (cs++[⟨none,0,[]⟩]) l' (co (cs++[⟨none,0,[]⟩]) j).l:=hl.ok hkl hb0 hm.1
   exact cN (fun _ _=>rfl) h2 h3 _ _ h4) (fun hb=>by
   have:=hm.2 hb
   exact⟨hl.nl.1 this.1,this.2⟩)
 have e1:(ob++[some (⟨e,z,[]⟩:Ob)]).set j (some ⟨t',z',l'⟩)=ob.set j (some ⟨t',z',l'⟩)++[some ⟨e,z,[]⟩]:=List.set_append_left _ _ hlt
 rw[e1]at hup
 exact⟨_,hup.1⟩
theorem mk {t e by_ m:Nat}{ti:Bool}{ts0:Nat}{z0:List Value}{kk k1 k2:IntKind}{a b:Operand}(key:Nat) (hm:m≤8796093022208){l:List AV}(hl:(List.replicate m (Value.int kk 0)).map tv=l) (k:WL x ops rest (aZ g d (.one (.sl key 0 m))) (ob++[some ⟨e,1,l⟩]) Q) (hT:bQ x.P ttab:=by exact aA) (hw:aY ops x.n g gd=some true:=by rfl)
  (ht:bB ttab t=some ⟨ti,ts0,z0,.sl e 1 by_ (.int kk 0)⟩:=by rfl) (ha:lk x.n g a=.one (tv (.int k1 (m:Int))):=by rfl) (hb:lk x.n g b=.one (tv (.int k2 (m:Int))):=by rfl) (hby:by_≤16:=by decide) (hk:dT ob key=true:=by rfl):WL x ops (⟨some d,.makeSlice t a b,ty,pos,af,gd⟩::rest) g ob Q:=by
 subst hl
 exact fM (OM hT ht ha hb hby hm hk) hw (by rintro _ _ ⟨rfl,rfl⟩;exact k)
theorem JN {t key o t' z':Nat}{ti:TI}{a:Operand}{l:List AV}{v:AV}(hx:l[o]? =some v) (k:WL x ops rest (aZ g d (.one v)) ob Q) (hT:bQ x.P ttab:=by exact aA) (hw:aY ops x.n g gd=some true:=by rfl) (hti:bB ttab t=some ti:=by rfl) (hlk:lk x.n g a=.one (.pt key o):=by rfl) (ho:bU ob key=some ⟨t',z',l⟩:=by rfl) (ha:ti.agg=false:=by rfl) (hr:mU v=true:=by rfl):
  WL x ops (⟨some d,.load t a,ty,pos,af,gd⟩::rest) g ob Q:=JG hT hw hti (by rw[hlk];exact Gv ho hx ha hr) k
theorem Bt {t key o t' z':Nat}{ti:TI}{a b:Operand}{l l' us:List AV}(hl:cQ l o us=l') (hle:o+us.length≤l.length) (k:WL x ops rest g (ob.set key (some ⟨t',z',l'⟩)) Q) (hT:bQ x.P ttab:=by exact aA) (hw:aY ops x.n g gd=some true:=by rfl) (hti:bB ttab t=some ti:=by rfl) (hlk:lk x.n g a=.one (.pt key o):=by rfl) (ho:bU ob key=some ⟨t',z',l⟩:=by rfl)
  (hb:tW (lk x.n g b)=some us:=by rfl) (hlo:cL us=true:=by rfl) (hsz:Nat.beq us.length ti.size=true:=by rfl):WL x ops (⟨none,.store t a b,ty,pos,af,gd⟩::rest) g ob Q:=
 fM (yU hT hti hlk hb hlo hsz ho hle hl) hw (by rintro _ _ ⟨rfl,rfl⟩;exact k)
variable {late:Nat→Bool}{K fr:List Nat}{on:Bool}{fuel:Nat}{listed:Array Bool}
theorem SV {t key o t' z':Nat}{ti:TI}{a:Operand}{l:List AV}{v:AV}(i:Nat) (hx:l[o]? =some v) (k:WD x ops Q late K fr true fuel (listed.setIfInBounds i true) (aZ g d (.one v)) ob) (hT:bQ x.P ttab:=by exact aA) (hi:ops[i]? =some ⟨some d,.load t a,ty,pos,af,gd⟩:=by rfl) (hst:kA ops late listed i=true:=by kernel_rfl) (hw:aY ops x.n g gd=some true:=by rfl) (hti:bB ttab t=some ti:=by rfl)
  (hlk:lk x.n g a=.one (.pt key o):=by rfl) (hK:K.contains key=true:=by rfl) (ho:bU ob key=some ⟨t',z',l⟩:=by rfl) (ha:ti.agg=false:=by rfl) (hr:mU v=true:=by rfl):WD x ops Q late K fr true (fuel+1) listed g ob:=dl i hT hi hst hw hti hlk hK (Gv ho hx ha hr) k
theorem Wv {t key o t' z':Nat}{ti:TI}{a b:Operand}{l l' us:List AV}(i:Nat) (hl:cQ l o us=l') (hle:o+us.length≤l.length) (k:WD x ops Q late K fr false fuel (listed.setIfInBounds i true) g (ob.set key (some ⟨t',z',l'⟩))) (hT:bQ x.P ttab:=by exact aA) (hr:Region.ready .any ops listed=[i]:=by kernel_rfl) (hi:ops[i]? =some ⟨none,.store t a b,ty,pos,af,gd⟩:=by rfl) (hw:aY ops x.n g gd=some true:=by rfl) (hti:bB ttab t=some ti:=by rfl)
  (hlk:lk x.n g a=.one (.pt key o):=by rfl) (ho:bU ob key=some ⟨t',z',l⟩:=by rfl) (hb:tW (lk x.n g b)=some us:=by rfl) (hlo:cL us=true:=by rfl) (hsz:Nat.beq us.length ti.size=true:=by rfl) (hlate:late i=true:=by rfl):WD x ops Q late K fr on (fuel+1) listed g ob:=by
 refine Gf i hr hi hw (yU (ty:=ty) (pos:=pos) (af:=af) (gd:=gd) hT hti hlk hb hlo hsz ho hle hl) false (fun h=>by cases h) (fun h=>by rw[hlate]at h;cases h) (fun h=>by cases h) fun g' ob' hR=>?_
 obtain⟨rfl,rfl⟩:=hR
 exact k
end
theorem Loc.cut {M:List Nat}{w W:World}{L L':List Res}{F:List Sh}(h:Loc M w W L F) (hc:∀b,(L'.flatMap Res.S).count b≤(L.flatMap Res.S).count b) (hφ:∀r∈L',r.φ W):Loc M w W L' F:=by
 have hin:∀b,b∈L'.flatMap Res.S→b∈L.flatMap Res.S:=fun b hb=>List.count_pos_iff.1 (Nat.lt_of_lt_of_le (List.count_pos_iff.2 hb) (hc b))
 exact⟨h.chg,hφ,fun b hb=>h.blk b (hin b hb),List.nodup_iff_count.2 fun b=>Nat.le_trans (hc b) (List.nodup_iff_count.1 h.nd b),fun q hq=>q.mono _ _ _ (fun b hb=>⟨hb.1,fun hm=>hb.2 (hin b hm)⟩) (h.shr q hq)⟩
section
variable {x:Cx}{g g':Nat→FV}{ob ob':List (Option Ob)}{cs cs':List Co}{ts ts':Array Value}{W W':World}{T:List (Nat×TI)}{Q:Post}{ops:Array Oper}{rest:List Oper}
end
def fE (ob:List (Option Ob)) (K0:List Nat):List Nat→List Lt→Prop
 | [],l=>l=[]
 | _::_,[]=>False
 | k::K,a::l=>Bw K0 (bU ob k) a.ob∧fE ob K0 K l
def eJ (K0:List Nat):List Lt→List (Option Ob)→Prop
 | [],l=>l=[]
 | _::_,[]=>False
 | a::l,o::os=>Bw K0 o a.ob∧eJ K0 l os
def bP:List (Option Ob)→List Nat→List (Option Ob)→List (Option Ob)
 | ob,k::K,a::l=>bP (ob.set k a) K l
 | ob,_,_=>ob
def cX:List Co→List Nat→List Co→List Co
 | cs,k::K,c::l=>cX (cs.set k c) K l
 | cs,_,_=>cs
def bV (K:List Nat):List (Option Ob):=K.map fun _=>none
def oW (n:Nat) (g:Nat→FV) (K:List Nat):List Operand→List FV→Prop
 | [],aa=>aa=[]
 | _::_,[]=>False
 | o::os,a::aa=>wW K a=some (lk n g o)∧oW n g K os aa
def Zq (x:Cx) (g:Nat→FV) (cf:Operand) (f:FuncId) (fst caps:List Tr):Prop:=∀ob cs ts W,RelC x g ob cs ts W→∃us0 us,Act.eval ⟨ts,[]⟩ cf=.func (.func f) us0.toArray us.toArray∧FRL W (x.fr W ob cs) fst us0∧FRL W (x.fr W ob cs) caps us
def Zr:Tr→FV
 | .a l=>.agg (l.map .t)
 | c=>.one (.t c)
def eE (caps:List Tr):List FV:=caps.map Zr
section
variable {x:Cx}{g g':Nat→FV}{ob ob':List (Option Ob)}{cs cs':List Co}{ts ts':Array Value}{W W':World}
theorem Ot (f:FuncId):Zq x g (.func f) f [] []:=fun _ _ _ _ _=>⟨[],[],rfl,by simp[FRL],by simp[FRL]⟩
theorem Yj {cf:Operand}{f:FuncId}{fst caps:List Tr}(h:lk x.n g cf=.one (.t (.f f fst caps))):Zq x g cf f fst caps:=fun _ _ _ _ hR=>by
 have h1:=hR.lk cf
 rw[h]at h1
 simp only[bE,bO,AR,FR]at h1
 obtain⟨us0,us,e,h2⟩:=h1
 exact⟨us0,us,e,h2⟩
theorem Lp {N:Nat→Prop}:∀{l:List Tr}{us:List Value},FRL W N l us→ARL W N cs (l.map .t) us
 | [],us,h=>by simpa[FRL,ARL]using h
 | y::l,[],h=>by simp only[FRL]at h
 | y::l,u::us,h=>by
  simp only[FRL]at h
  simp only[List.map_cons,ARL,AR]
  exact⟨h.1,Lp h.2⟩
theorem eR:∀{K:List Nat}{l:List (Option Ob)}{ob:List (Option Ob)},(bP ob K l).length=ob.length
 | [],l,ob=>by simp[bP]
 | k::K,[],ob=>by simp[bP]
 | k::K,a::l,ob=>by simp[bP,eR (K:=K)]
theorem kC:∀{K:List Nat}{l:List Co}{cs:List Co},(cX cs K l).length=cs.length
 | [],l,cs=>by simp[cX]
 | k::K,[],cs=>by simp[cX]
 | k::K,a::l,cs=>by simp[cX,kC (K:=K)]
theorem fN:∀{K:List Nat}{l:List (Option Ob)}{ob:List (Option Ob)}{j:Nat},j∉K→(bP ob K l)[j]? =ob[j]?
 | [],l,ob,j,_=>by simp[bP]
 | k::K,[],ob,j,_=>by simp[bP]
 | k::K,a::l,ob,j,h=>by
  simp only[List.mem_cons,not_or]at h
  simp only[bP]
  rw[fN h.2,List.getElem?_set_ne (fun e=>h.1 e.symm)]
theorem lW:∀{K:List Nat}{l:List Co}{cs:List Co}{j:Nat},j∉K→co (cX cs K l) j=co cs j
 | [],l,cs,j,_=>by simp[cX]
 | k::K,[],cs,j,_=>by simp[cX]
 | k::K,a::l,cs,j,h=>by
  simp only[List.mem_cons,not_or]at h
  simp only[cX]
  rw[lW h.2]
  unfold co
  rw[List.getElem?_set_ne (fun e=>h.1 e.symm)]
theorem jH:∀{K:List Nat}{l:List (Option Ob)}{ob:List (Option Ob)}{i k:Nat},K.Nodup→l.length=K.length→K[i]? =some k→k<ob.length→(bP ob K l)[k]? =l[i]?
 | [],l,ob,i,k,_,_,h,_=>by simp at h
 | k0::K,[],ob,i,k,_,hl,_,_=>by simp at hl
 | k0::K,a::l,ob,0,k,hn,hl,h,hk=>by
  simp at h
  subst h
  have hn:=List.nodup_cons.1 hn
  simp only[bP]
  rw[fN hn.1,List.getElem?_set_self hk]
  rfl
 | k0::K,a::l,ob,i+1,k,hn,hl,h,hk=>by
  have hn:=List.nodup_cons.1 hn
  simp only[bP]
  exact jH hn.2 (by simpa using hl) (by simpa using h) (by simpa using hk)
theorem Lq:∀{K:List Nat}{l:List Co}{cs:List Co}{i k:Nat},K.Nodup→l.length=K.length→K[i]? =some k→k<cs.length→co (cX cs K l) k=co l i
 | [],l,cs,i,k,_,_,h,_=>by simp at h
 | k0::K,[],cs,i,k,_,hl,_,_=>by simp at hl
 | k0::K,a::l,cs,0,k,hn,hl,h,hk=>by
  simp at h
  subst h
  have hn:=List.nodup_cons.1 hn
  simp only[cX]
  rw[lW hn.1]
  simp[co,List.getElem?_set_self hk]
 | k0::K,a::l,cs,i+1,k,hn,hl,h,hk=>by
  have hn:=List.nodup_cons.1 hn
  simp only[cX]
  rw[Lq hn.2 (by simpa using hl) (by simpa using h) (by simpa using hk)]
  simp[co]
theorem sB {K0:List Nat}:∀{K:List Nat}{l:List Lt},fE ob K0 K l→l.length=K.length
 | [],l,h=>by
  simp only[fE]at h
  simp[h]
 | k::K,[],h=>by simp only[fE]at h
 | k::K,a::l,h=>by
  simp only[fE]at h
  simp[sB h.2]
theorem iE {K0:List Nat}:∀{K:List Nat}{l:List Lt}{i k:Nat},fE ob K0 K l→K[i]? =some k→∃(a:Lt) (l':List AV),l[i]? =some a∧renL K0 a.l=some l'∧ob[k]? =some (some ⟨a.t,a.z,l'⟩)
 | [],l,i,k,_,h=>by simp at h
 | k0::K,[],i,k,h,_=>by simp only[fE]at h
 | k0::K,a::l,0,k,h,hk=>by
  simp only[fE]at h
  simp at hk
  subst hk
  obtain⟨⟨l',h1,h2⟩,_⟩:=h
  exact⟨a,l',rfl,h1,cT h2⟩
 | k0::K,a::l,i+1,k,h,hk=>by
  simp only[fE]at h
  exact iE (i:=i) h.2 (by simpa using hk)
theorem yY {K0:List Nat}:∀{l:List Lt}{os:List (Option Ob)},eJ K0 l os→os.length=l.length
 | [],l,h=>by
  simp only[eJ]at h
  simp[h]
 | k::K,[],h=>by simp only[eJ]at h
 | k::K,a::l,h=>by
  simp only[eJ]at h
  simp[yY h.2]
theorem sC {K0:List Nat}:∀{l:List Lt}{os:List (Option Ob)}{i:Nat}{a:Lt},eJ K0 l os→l[i]? =some a→∃l',renL K0 a.l=some l'∧os[i]? =some (some ⟨a.t,a.z,l'⟩)
 | [],_,_,_,_,h=>by simp at h
 | b::l,[],_,_,h,_=>by simp only[eJ]at h
 | b::l,o::os,0,a,h,ha=>by
  simp only[eJ]at h
  simp at ha
  subst ha
  obtain⟨⟨l',h1,h2⟩,_⟩:=h
  exact⟨l',h1,by rw[h2];rfl⟩
 | b::l,o::os,i+1,a,h,ha=>by
  simp only[eJ]at h
  obtain⟨l',h1,h2⟩:=sC (i:=i) h.2 (by simpa using ha)
  exact⟨l',h1,by simpa using h2⟩
def Gw (K:List Nat) (cl cs2:List Co):Prop:=∀i k,K[i]? =some k→k<cs2.length∧co cs2 k=co cl i
mutual
theorem Zs {K:List Nat}{N:Nat→Prop}{cl cs2:List Co}(hc:Gw K cl cs2):∀(a a':AV) (u:Value),fI K a=some a'→AR W N cl a u→AR W N cs2 a' u
 | .t y,a',u,h,hr=>by
  simp only[fI,Option.some.injEq]at h
  subst h
  simpa only[AR]using hr
 | .sl k o n,a',u,h,hr=>by
  simp only[fI]at h
  split at h
  ·rename_i t ht
   simp only[Option.some.injEq]at h
   subst h
   simp only[AR]at hr⊢
   rw[(hc k t ht).2]
   exact⟨(hc k t ht).1,hr.2⟩
  cases h
 | .pt k o,a',u,h,hr=>by
  simp only[fI]at h
  split at h
  ·rename_i t ht
   simp only[Option.some.injEq]at h
   subst h
   simp only[AR]at hr⊢
   rw[(hc k t ht).2]
   exact hr
  cases h
 | .ef l o,a',u,h,hr=>by
  simp only[fI,Option.some.injEq]at h
  subst h
  simpa only[AR]using hr
 | .fn f a b,a',u,h,hr=>by
  simp only[fI]at h
  split at h
  ·rename_i a1 b1 h1 h2
   simp only[Option.some.injEq]at h
   subst h
   simp only[AR]at hr⊢
   obtain⟨us,vs,e,r1,r2⟩:=hr
   exact⟨us,vs,e,ARL_to hc a a1 us h1 r1,ARL_to hc b b1 vs h2 r2⟩
  cases h
theorem ARL_to {K:List Nat}{N:Nat→Prop}{cl cs2:List Co}(hc:Gw K cl cs2):∀(l l':List AV) (us:List Value),renL K l=some l'→ARL W N cl l us→ARL W N cs2 l' us
 | [],l',us,h,hr=>by
  simp only[renL,Option.some.injEq]at h
  subst h
  simpa only[ARL]using hr
 | a::l,l',us,h,hr=>by
  simp only[renL]at h
  split at h
  ·rename_i a1 l1 h1 h2
   simp only[Option.some.injEq]at h
   subst h
   cases us with
   | nil=>simp only[ARL]at hr
   | cons u us=>
    simp only[ARL]at hr⊢
    exact⟨Zs hc a a1 u h1 hr.1,ARL_to hc l l1 us h2 hr.2⟩
  cases h
end
theorem JO {N:Nat→Prop}{a:AV}{u:Value}(h:∀z,a≠.t z):CR W N cs a (.w u)↔AR W N cs a u:=by
 cases a with
 | t z=>exact absurd rfl (h z)
 | _=>simp only[CR]
theorem JP {K:List Nat}{a a':AV}(h:fI K a=some a') (hn:∀z,a≠.t z):∀z,a'≠.t z:=by
 intro z e
 subst e
 cases a with
 | t z=>exact hn z rfl
 | ef l o=>simp[fI]at h
 | _=>
  simp only[fI]at h
  split at h <;> simp at h
theorem ON {K:List Nat}{N:Nat→Prop}{cl cs2:List Co}(hc:Gw K cl cs2){a a':AV}{y:VT}(h:fI K a=some a') (hr:CR W N cl a y):CR W N cs2 a' y:=by
 by_cases ht:∃z,a=.t z
 ·obtain⟨z,rfl⟩:=ht
  simp only[fI,Option.some.injEq]at h
  subst h
  simpa only[CR]using hr
 have hn:∀z,a≠.t z:=fun z e=>ht ⟨z,e⟩
 cases y with
 | w u=>exact(JO (JP h hn)).2 (Zs hc _ _ u h ((JO hn).1 hr))
 | _=>
  cases a with
  | t z=>exact absurd rfl (hn z)
  | _=>simp only[CR]at hr
theorem Sd {K:List Nat}{N:Nat→Prop}{cl cs2:List Co}(hc:Gw K cl cs2):∀{l l':List AV}{ys:List VT},renL K l=some l'→bJ W N cl l ys→bJ W N cs2 l' ys
 | [],l',ys,h,hr=>by
  simp only[renL,Option.some.injEq]at h
  subst h
  simpa only[bJ]using hr
 | a::l,l',ys,h,hr=>by
  simp only[renL]at h
  split at h
  ·rename_i a1 l1 h1 h2
   simp only[Option.some.injEq]at h
   subst h
   cases ys with
   | nil=>simp only[bJ]at hr
   | cons y ys=>
    simp only[bJ]at hr⊢
    exact⟨ON hc h1 hr.1,Sd hc h2 hr.2⟩
  cases h
theorem xD {K:List Nat}{l l':List AV}(h:renL K l=some l'):l=[]↔l'=[]:=by
 cases l with
 | nil=>
  simp only[renL,Option.some.injEq]at h
  simp[←h]
 | cons a l=>
  simp only[renL]at h
  split at h
  ·simp only[Option.some.injEq]at h
   simp[←h]
  cases h
theorem vJ (b:Nat):∀{K:List Nat}{l:List (Option Ob)}{lc:List Co}{ob:List (Option Ob)}{cs:List Co},K.Nodup→l.length=K.length→lc.length=K.length→ob.length=cs.length→(∀k∈K,k<ob.length)→
  (cC (bP ob K l) (cX cs K lc)).count b=(cC (bP ob K (bV K)) cs).count b+((aK l lc).flatMap Res.S).count b
 | [],l,lc,ob,cs,_,h1,h2,_,_=>by
  obtain rfl:=List.eq_nil_of_length_eq_zero h1
  obtain rfl:=List.eq_nil_of_length_eq_zero h2
  simp[bP,cX,bV,aK]
 | k::K,[],lc,ob,cs,_,h1,h2,_,_=>by simp at h1
 | k::K,a::l,[],ob,cs,_,h1,h2,_,_=>by simp at h2
 | k::K,a::l,c::lc,ob,cs,hn,h1,h2,h3,h4=>by
  have hn':=List.nodup_cons.1 hn
  have hk:=h4 k (by simp)
  have ih1:=vJ b (K:=K) (l:=l) (lc:=lc) (ob:=ob.set k a) (cs:=cs.set k c) hn'.2 (by simpa using h1) (by simpa using h2) (by simpa using h3) (fun j hj=>by simpa using h4 j (List.mem_cons_of_mem _ hj))
  have e1:bV (k::K)=none::bV K:=rfl
  simp only[bP,cX,e1,aK,List.zipWith_cons_cons,List.flatMap_cons,List.count_append]
  unfold aK at ih1
  rw[ih1]
  -- the k-th of the others
  have e2:bP (ob.set k none) K (bV K)=(bP (ob.set k a) K (bV K)).set k none:=by
   apply List.ext_getElem?
   intro j
   by_cases hj:j∈K
   ·obtain⟨i,hi⟩:=List.mem_iff_getElem?.1 hj
    have hkj:k≠j:=fun e=>hn'.1 (e▸hj)
    rw[List.getElem?_set_ne hkj,jH hn'.2 (by simp[bV]) hi (by simpa using h4 j (List.mem_cons_of_mem _ hj)),jH hn'.2 (by simp[bV]) hi (by simpa using h4 j (List.mem_cons_of_mem _ hj))]
   rw[fN hj]
   by_cases hkj:k=j
   ·subst hkj
    rw[List.getElem?_set_self hk,List.getElem?_set_self (by rw[eR];simpa using hk)]
   rw[List.getElem?_set_ne hkj,List.getElem?_set_ne hkj,fN hj,List.getElem?_set_ne hkj]
  have e3:(bP (ob.set k a) K (bV K))[k]? =some a:=by rw[fN hn'.1,List.getElem?_set_self hk]
  have hck:co (cs.set k c) k=c:=by simp[co,List.getElem?_set_self (show k<cs.length by omega)]
  have hl0:(bP (ob.set k a) K (bV K)).length=(cs.set k c).length:=by rw[eR];simpa using h3
  have h5:=An (r':=aP none (co cs k)) (bI hl0 e3) b
  rw[hck]at h5
  have e4:(aK (bP (ob.set k a) K (bV K)) (cs.set k c)).set k (aP none (co cs k))=aK (bP (ob.set k none) K (bV K)) cs:=by
   rw[e2,←lU]
   congr 1
   rw[List.set_set,qP (by omega)]
  have h6:(aP none (co cs k)).S=[]:=by cases hb:(co cs k).b <;> simp[aP]
  rw[e4,h6,List.count_nil]at h5
  unfold cC aK
  unfold aK at h5
  omega
theorem jW {K:List Nat}(hn:K.Nodup) (hl:ob.length=cs.length) (hK:∀k∈K,k<ob.length){r:Res}(h:r∈aK (bP ob K (bV K)) cs):r∈aK ob cs∨r.S=[]∧∀W,r.φ W:=by
 obtain⟨j,hj⟩:=List.mem_iff_getElem?.1 h
 by_cases hjK:j∈K
 ·obtain⟨i,hi⟩:=List.mem_iff_getElem?.1 hjK
  have h1:=jH (l:=bV K) hn (by simp[bV]) hi (hK j hjK)
  have h2:(bV K)[i]? =some none:=by simp[bV,hi]
  rw[h2]at h1
  rw[bI (by rw[eR];exact hl) h1]at hj
  injection hj with hj
  subst hj
  refine .inr ⟨?_,fun W=>?_⟩ <;> cases hb:(co cs j).b <;> simp[aP]
 left
 have h1:=fN (l:=bV K) (ob:=ob) hjK
 cases h2:ob[j]? with
 | none=>
  rw[h2]at h1
  have:¬j<(bP ob K (bV K)).length:=fun h=>by simp[h]at h1
  have h3:=(List.getElem?_eq_some_iff.1 hj).1
  rw[eQ (by rw[eR];exact hl)]at h3
  rw[eR]at this
  omega
 | some o=>
  rw[h2]at h1
  rw[bI (by rw[eR];exact hl) h1]at hj
  injection hj with hj
  subst hj
  exact List.mem_of_getElem? (bI hl h2)
theorem Gx {K:List Nat}{N':Nat→Prop}(hR:RelC x g ob cs ts W) (hN:∀b,x.fr W ob cs b→N' b):∀{os:List Operand}{aa:List FV},oW x.n g K os aa→cO W N' (K.map (co cs)) aa (os.map (Act.eval ⟨ts,[]⟩))
 | [],aa,h=>by
  simp only[oW]at h
  simp[h,cO]
 | o::os,[],h=>by simp only[oW]at h
 | o::os,a::aa,h=>by
  simp only[oW]at h
  simp only[List.map_cons,cO]
  refine⟨?_,Gx hR hN h.2⟩
  have:=La hN h.1 (hR.lk o)
  cases a with
  | tup l=>simp[wW]at h
  | _=>exact this
theorem qS {N:Nat→Prop}:∀{l l':List FV}{us us':List Value},cO W N cs l us→cO W N cs l' us'→cO W N cs (l++l') (us++us')
 | [],l',us,us',h,h'=>by
  simp only[cO]at h
  subst h
  simpa using h'
 | a::l,l',u::us,us',h,h'=>by
  simp only[cO]at h
  simp only[List.cons_append,cO]
  exact⟨h.1,qS h.2 h'⟩
 | _::_,_,[],_,h,_=>by simp only[cO]at h
theorem oI {N N':Nat→Prop}(hN:∀b,N b→N' b):∀{caps:List Tr}{us:List Value},FRL W N caps us→cO W N' cs (eE caps) us
 | [],us,h=>by
  simp only[FRL]at h
  simp[h,eE,cO]
 | c::caps,[],h=>by simp only[FRL]at h
 | c::caps,u::us,h=>by
  simp only[FRL]at h
  simp only[eE,List.map_cons,cO]
  refine⟨?_,oI hN h.2⟩
  have h1:=gJ (W':=W) (fun _ _=>rfl) hN _ _ h.1
  cases c with
  | a l=>
   simp only[FR]at h1
   obtain⟨us,e,h2⟩:=h1
   exact⟨us,e,Lp h2⟩
  | _=>simpa only[Zr,bO,AR]using h1
theorem Ou {fresh:Bool}{f:FuncId}{args:List FV}{R:List Lt→FV→Prop}{lent:List Lt}{K:List Nat}{os:List Operand}{fst caps:List Tr}{fus cus:List Value}(hS:aE fresh x.P f lent (eE fst++args++eE caps) R) (hK:fE ob K K lent) (hnd:K.Nodup) (ha:oW x.n g K os args) (hfst:FRL W (x.fr W ob cs) fst fus) (hcap:FRL W (x.fr W ob cs) caps cus) (hR:RelC x g ob cs ts W):
  Calls x.P f (fus++os.map (Act.eval ⟨ts,[]⟩)++cus).toArray W (fun e W'=>∃v lent' r ys cl N2,e=.returned v∧R lent' r∧lent'.length=K.length∧cl.length=K.length∧RO W' N2 cl r v ys∧VT.okL W' ys∧(VT.fpL ys).Nodup∧
   ∀(ok:List (Option Ob)),eJ K lent' ok→∀(oz:List Ob) (csn:List Co),csn.length=oz.length→(∀b,((aK (oz.map some) csn).flatMap Res.S).count b≤(VT.fpL ys).count b)→(∀r∈aK (oz.map some) csn,r.φ W')→
    (∀b,N2 b→x.fr W' (bP ob K ok++oz.map some) (cX cs K cl++csn) b)∧
    ((∀i o,oz[i]? =some o→bJ W' (x.fr W' (bP ob K ok++oz.map some) (cX cs K cl++csn)) (cX cs K cl++csn) o.l (co csn i).l∧((co csn i).b=none→o.l=[]∧o.z≠0))→
     RelC x g (bP ob K ok++oz.map some) (cX cs K cl++csn) ts W'∧∀d,Aft K d ob cs ts W (bP ob K ok++oz.map some) (cX cs K cl++csn) ts W')):=by
 have hlen:=hR.len
 have hll:=sB hK
 have hKl:∀k∈K,k<ob.length:=fun k hk=>by
  obtain⟨i,hi⟩:=List.mem_iff_getElem?.1 hk
  obtain⟨a,l',_,_,h2⟩:=iE hK hi
  exact(List.getElem?_eq_some_iff.1 h2).1
 have hlobs:(bC lent).length=K.length:=by rw[iD,hll]
 have hput0:aK (bP ob K (bC lent)) cs=aK ob cs:=by
  have hl0:(bP ob K (bC lent)).length=cs.length:=by rw[eR];exact hlen
  apply List.ext_getElem?
  intro j
  by_cases hjl:j<ob.length
  ·by_cases hj:j∈K
   ·obtain⟨i,hi⟩:=List.mem_iff_getElem?.1 hj
    obtain⟨a,l',h1,_,h2⟩:=iE hK hi
    have h3:=jH hnd hlobs hi hjl
    rw[eZ,h1]at h3
    rw[bI hl0 h3,bI hlen h2]
    exact congrArg some (iY _ _)
   have h3:=fN (l:=bC lent) (ob:=ob) hj
   rw[List.getElem?_eq_getElem hjl]at h3
   rw[bI hl0 h3,bI hlen (List.getElem?_eq_getElem hjl)]
  rw[List.getElem?_eq_none (by rw[eQ hl0];omega),List.getElem?_eq_none (by rw[eQ hlen];omega)]
 have hputc:cX cs K (K.map (co cs))=cs:=by
  have key:∀(K:List Nat),(∀k∈K,k<cs.length)→cX cs K (K.map (co cs))=cs:=by
   intro K
   induction K with
   | nil=>intro _;rfl
   | cons k K ih=>
    intro h
    simp only[List.map_cons,cX]
    rw[qP (h k (by simp))]
    exact ih fun j hj=>h j (List.mem_cons_of_mem _ hj)
  exact key K fun k hk=>by rw[←hlen];exact hKl k hk
 have hcnt0:=fun b=>vJ b (l:=bC lent) (lc:=K.map (co cs)) (cs:=cs) hnd hlobs (by simp) hlen hKl
 unfold cC at hcnt0
 rw[hputc,hput0]at hcnt0
 have hfr0:∀b,x.fr W ob cs b→kJ W (aK (bC lent) (K.map (co cs))) b:=fun b hb=>And.intro hb.1.1 fun hm=>hb.1.2 (by
  have h1:=List.count_pos_iff.2 hm
  have h2:=hcnt0 b
  exact List.count_pos_iff.1 (show 0<((aK ob cs).flatMap Res.S).count b by omega))
 have hgetL:∀i k,K[i]? =some k→∃(a:Lt) (l':List AV),lent[i]? =some a∧renL K a.l=some l'∧ob[k]? =some (some (⟨a.t,a.z,l'⟩:Ob)):=fun i k hi=>iE hK hi
 have hφ0:∀r∈aK (bC lent) (K.map (co cs)),r.φ W:=fun r hr=>by
  obtain⟨i,hi⟩:=List.mem_iff_getElem?.1 hr
  have hil:=(List.getElem?_eq_some_iff.1 hi).1
  have hil2:i<K.length:=by
   rw[eQ (by simp[hlobs])]at hil
   simpa using hil
  obtain⟨a,l',h1,_,h2⟩:=hgetL i K[i] (List.getElem?_eq_getElem hil2)
  have e1:(bC lent)[i]? =some (some a.ob):=by rw[eZ,h1];rfl
  rw[bI (by simp[hlobs]) e1,iX (List.getElem?_eq_getElem hil2)]at hi
  injection hi with hi
  subst hi
  rw[show aP (some a.ob) (co cs K[i])=aP (some ⟨a.t,a.z,l'⟩) (co cs K[i]) from iY _ _]
  exact hR.res h2
 have h1:Loc x.M x.w W (aK (bC lent) (K.map (co cs))++aK (bP ob K (bV K)) cs) []:=(hR.2.pickS []).cut (fun b=>by
  rw[List.flatMap_append,List.count_append]
  have:=hcnt0 b
  omega) (fun r hr=>by
  rcases List.mem_append.1 hr with hr | hr
  ·exact hφ0 r hr
  rcases jW hnd hlen hKl hr with hr | hr
  ·exact hR.2.res r hr
  exact hr.2 W)
 have h2:Loc ((aK (bC lent) (K.map (co cs))).flatMap Res.S) W W (aK (bC lent) (K.map (co cs))) [(Rx lent (K.map (co cs)) (eE fst++args++eE caps) (fus++os.map (Act.eval ⟨ts,[]⟩)++cus)).on (x.fr W ob cs)]:=by
  refine h1.focus.read _ ⟨⟨by simp[hlobs],fun k o hk=>?_⟩,qS (qS (oI (fun b hb=>⟨hfr0 b hb,hb⟩) hfst) (Gx hR (fun b hb=>⟨hfr0 b hb,hb⟩) ha)) (oI (fun b hb=>⟨hfr0 b hb,hb⟩) hcap)⟩
  rw[eZ]at hk
  cases hq:lent[k]? with
  | none=>rw[hq]at hk;cases hk
  | some a=>
   rw[hq]at hk
   simp at hk
   subst hk
   have hkK:k<K.length:=by rw[←hll];exact(List.getElem?_eq_some_iff.1 hq).1
   obtain⟨a',l',q1,q0,q2⟩:=hgetL k K[k] (List.getElem?_eq_getElem hkK)
   rw[hq]at q1
   injection q1 with q1
   subst q1
   have q3:=hR.obs.2 _ _ q2
   rw[iX (List.getElem?_eq_getElem hkK)]
   exact⟨vH (fun b hb=>⟨hfr0 b hb,hb⟩) q0 q3.1,fun h=>⟨(xD q0).2 (q3.2 h).1,(q3.2 h).2⟩⟩
 refine(hS _ W _ _ h2).mono fun e W' hE=>?_
 obtain⟨v,lent',cl,r,ys,rfl,hr,hl',hty,hcl,hsame,h3⟩:=hE
 have h4:=Loc.turn h1 h3
 have hsh:=Sh.off (h3.sh 0 rfl)
 have hcl':cl.length=K.length:=by simpa using hcl
 have hlK:lent'.length=K.length:=by rw[hl',hll]
 refine⟨v,lent',r,ys,cl,_,rfl,hr,hlK,hcl',hsh.2,h3.res (eN ys) (by simp),?_,fun ok hbk oz csn hlz hcz hφz=>?_⟩
 ·have:=h3.nd
  rw[List.flatMap_append,List.nodup_append]at this
  simpa[eN]using this.2.1
 have hlob':ok.length=K.length:=by rw[yY hbk,hlK]
 have hrk:aK ok cl=aK (bC lent') cl:=by
  apply List.ext_getElem?
  intro j
  by_cases hj:j<lent'.length
  ·obtain⟨l',q1,q2⟩:=sC hbk (List.getElem?_eq_getElem hj)
   rw[bI (by rw[hlob',hcl']) q2,bI (ob:=bC lent') (by rw[iD,hlK,hcl']) (o:=some (lent'[j]).ob) (by rw[eZ,List.getElem?_eq_getElem hj];rfl)]
   exact congrArg some (iY _ _)
  rw[List.getElem?_eq_none (by rw[eQ (by rw[hlob',hcl'])];omega),List.getElem?_eq_none (by rw[eQ (by rw[iD,hlK,hcl'])];omega)]
 have hlen2:(bP ob K ok).length=(cX cs K cl).length:=by rw[eR,kC];exact hlen
 have hrs:aK (bP ob K ok++oz.map some) (cX cs K cl++csn)=aK (bP ob K ok) (cX cs K cl)++aK (oz.map some) csn:=by
  unfold aK
  rw[List.zipWith_append hlen2]
 have hcnt2:∀b,(cC (bP ob K ok++oz.map some) (cX cs K cl++csn)).count b≤(((aK (bC lent') cl++[eN ys])++aK (bP ob K (bV K)) cs).flatMap Res.S).count b:=fun b=>by
  have q1:=vJ b (l:=ok) (lc:=cl) (cs:=cs) hnd hlob' hcl' hlen hKl
  rw[hrk]at q1
  have q2:=hcz b
  unfold cC at q1⊢
  rw[hrs,List.flatMap_append,List.count_append,List.flatMap_append,List.count_append,List.flatMap_append,List.count_append,List.flatMap_cons,List.flatMap_nil,List.append_nil]
  have q3:(eN ys).S=VT.fpL ys:=rfl
  rw[q3]
  omega
 have hin2:∀b,b∈cC (bP ob K ok++oz.map some) (cX cs K cl++csn)→b∈((aK (bC lent') cl++[eN ys])++aK (bP ob K (bV K)) cs).flatMap Res.S:=fun b hb=>List.count_pos_iff.1 (Nat.lt_of_lt_of_le (List.count_pos_iff.2 hb) (hcnt2 b))
 have hrest:∀b,b∈(aK (bP ob K (bV K)) cs).flatMap Res.S→b∈cC ob cs:=fun b hb=>by
  obtain⟨r,hr,hb⟩:=List.mem_flatMap.1 hb
  rcases jW hnd hlen hKl hr with hr | hr
  ·exact List.mem_flatMap.2 ⟨r,hr,hb⟩
  rw[hr.1]at hb
  cases hb
 have hlentS:∀b,b∈(aK (bC lent) (K.map (co cs))).flatMap Res.S→b∈cC ob cs:=fun b hb=>by
  have q1:=List.count_pos_iff.2 hb
  have q2:=hcnt0 b
  exact List.count_pos_iff.1 (show 0<((aK ob cs).flatMap Res.S).count b by omega)
 have hfree:∀b,kJ W' (aK (bC lent') cl++[eN ys]) b→(x.fr W ob cs b∨b∈(aK (bC lent) (K.map (co cs))).flatMap Res.S∨W.heap.size≤b)→x.fr W' (bP ob K ok++oz.map some) (cX cs K cl++csn) b:=fun b hb hb'=>by
  refine⟨⟨hb.1,fun hm=>?_⟩,?_⟩
  ·have hm:=hin2 b hm
   rw[List.flatMap_append,List.mem_append]at hm
   rcases hm with hm | hm
   ·exact hb.2 hm
   have hm2:=hrest b hm
   rcases hb' with hb' | hb' | hb'
   ·exact hb'.1.2 hm2
   ·have q1:=hcnt0 b
    have q2:=List.nodup_iff_count.1 hR.2.nd b
    have q3:=List.count_pos_iff.2 hb'
    have q4:=List.count_pos_iff.2 hm
    unfold cC at q1
    omega
   have:=(hR.2.blk b hm2).2
   omega
  rcases hb' with hb' | hb' | hb'
  ·exact hb'.2
  ·exact .inr (hR.2.blk b (hlentS b hb')).1
  exact .inr (.inr (Nat.le_trans hR.2.chg.size hb'))
 have hsize:W.heap.size≤W'.heap.size:=h3.chg.size
 have hfr:∀b,x.fr W ob cs b→x.fr W' (bP ob K ok++oz.map some) (cX cs K cl++csn) b:=fun b hb=>by
  refine hfree b ⟨Nat.lt_of_lt_of_le hb.1.1 hsize,fun hm=>?_⟩ (.inl hb)
  have q1:=h3.blk b hm
  rcases q1.1 with q1 | q1
  ·exact hb.1.2 (hlentS b q1)
  have:=hb.1.1
  omega
 have hkeep:∀b,x.fr W ob cs b→W'.heap[b]? =W.heap[b]? :=fun b hb=>h3.chg.block b hb.1.1 (fun hm=>hb.1.2 (hlentS b hm))
 refine⟨fun b hb=>hfree b hb.2.1 hb.2.2,fun hoz=>?_⟩
 have hcoK:∀i k,K[i]? =some k→co (cX cs K cl) k=co cl i:=fun i k hi=>Lq hnd hcl' hi (by rw[←hlen];exact hKl k (List.mem_of_getElem? hi))
 have hsame2:Same cs (cX cs K cl):=⟨by rw[kC];exact Nat.le_refl _,fun k hk=>by
  by_cases hkK:k∈K
  ·obtain⟨i,hi⟩:=List.mem_iff_getElem?.1 hkK
   have:=hsame.2 i (by simpa using(List.getElem?_eq_some_iff.1 hi).1)
   rw[iX hi]at this
   rw[hcoK i k hi]
   exact this
  rw[lW hkK]
  exact⟨rfl,rfl⟩⟩
 have happ:∀{k},k<(cX cs K cl).length→co (cX cs K cl++csn) k=co (cX cs K cl) k:=fun hk=>by simp[co,List.getElem?_append_left hk]
 have hsame3:Same cs (cX cs K cl++csn):=hsame2.trans ⟨by simp,fun k hk=>by rw[happ hk];exact⟨rfl,rfl⟩⟩
 have hLf:Loc x.M x.w W' (aK (bP ob K ok++oz.map some) (cX cs K cl++csn)) []:=h4.cut hcnt2 (fun r hr=>by
  rw[hrs]at hr
  rcases List.mem_append.1 hr with hr | hr
  ·obtain⟨j,hj⟩:=List.mem_iff_getElem?.1 hr
   have hjl:=(List.getElem?_eq_some_iff.1 hj).1
   rw[eQ hlen2,kC,←hlen]at hjl
   by_cases hjK:j∈K
   ·obtain⟨i,hi⟩:=List.mem_iff_getElem?.1 hjK
    have q1:=jH hnd hlob' hi (hKl j hjK)
    have q2:i<ok.length:=by rw[hlob'];exact(List.getElem?_eq_some_iff.1 hi).1
    rw[List.getElem?_eq_getElem q2]at q1
    rw[bI hlen2 q1,hcoK i j hi]at hj
    injection hj with hj
    subst hj
    refine h3.res _ (List.mem_append_left _ (by rw[←hrk];exact List.mem_of_getElem? (bI (by rw[hlob',hcl']) (List.getElem?_eq_getElem q2))))
   have q1:(bP ob K ok)[j]? =ob[j]? :=fN hjK
   rw[List.getElem?_eq_getElem hjl]at q1
   rw[bI hlen2 q1,lW hjK]at hj
   injection hj with hj
   subst hj
   have q2:(bP ob K (bV K))[j]? =ob[j]? :=fN hjK
   rw[List.getElem?_eq_getElem hjl]at q2
   exact h4.res _ (List.mem_append_right _ (List.mem_of_getElem? (bI (by rw[eR];exact hlen) q2)))
  exact hφz r hr)
 refine⟨.of hR.1 hLf ⟨by rw[List.length_append,List.length_append,hlen2,List.length_map,hlz],fun k o hk=>?_⟩ (fun i hi=>?_) (hR.3.trans hsame3),fun d=>⟨hsame3,fun k hk hkc=>?_,hsize,fun b hlt hb=>?_,fun b hb=>?_,fun _ _=>rfl⟩⟩
 ·rcases Nat.lt_or_ge k (bP ob K ok).length with hlt | hge
  ·rw[List.getElem?_append_left hlt]at hk
   rw[happ (by rw[←hlen2];exact hlt)]
   rw[eR]at hlt
   by_cases hkK:k∈K
   ·obtain⟨i,hi⟩:=List.mem_iff_getElem?.1 hkK
    rw[jH hnd hlob' hi hlt]at hk
    have hil:i<lent'.length:=by rw[hlK];exact(List.getElem?_eq_some_iff.1 hi).1
    obtain⟨l',q0,q2⟩:=sC hbk (List.getElem?_eq_getElem hil)
    rw[q2]at hk
    injection hk with hk
    injection hk with hk
    subst hk
    have q1:=hsh.1.2 i (lent'[i]).ob (by rw[eZ,List.getElem?_eq_getElem hil];rfl)
    rw[hcoK i k hi]
    have q3:Gw K cl (cX cs K cl++csn):=fun i k hi=>by
     have hkl:=hKl k (List.mem_of_getElem? hi)
     have hkp:k<(cX cs K cl).length:=by rw[kC,←hlen];exact hkl
     exact⟨by rw[List.length_append];omega,by rw[happ hkp,hcoK i k hi]⟩
    exact⟨cN (fun _ _=>rfl) (fun b hb=>hfree b hb.2.1 hb.2.2) .refl _ _ (Sd q3 q0 q1.1),fun h=>⟨(xD q0).1 (q1.2 h).1,(q1.2 h).2⟩⟩
   rw[fN hkK]at hk
   rw[lW hkK]
   have q1:=hR.obs.2 k o hk
   exact⟨cN hkeep hfr hsame3 _ _ q1.1,q1.2⟩
  rw[List.getElem?_append_right hge]at hk
  have ho:oz[k-(bP ob K ok).length]? =some o:=by
   rw[List.getElem?_map]at hk
   cases hq:oz[k-(bP ob K ok).length]? with
   | none=>rw[hq]at hk;cases hk
   | some o'=>
    rw[hq]at hk
    simp at hk
    rw[hk]
  have q1:=hoz _ o ho
  have e:co (cX cs K cl++csn) k=co csn (k-(bP ob K ok).length):=by
   unfold co
   rw[List.getElem?_append_right (by rw[←hlen2];exact hge),hlen2]
  rw[e]
  exact q1
 ·obtain⟨u,q1,q2⟩:=hR.fv hi
  exact⟨u,q1,eA hkeep hfr hsame3 _ _ q2⟩
 ·rw[happ (by rw[kC];exact hkc),lW hk]
 ·refine h3.chg.block b hlt fun hm=>?_
  obtain⟨r,hr,hbr⟩:=List.mem_flatMap.1 hm
  obtain⟨i,hi⟩:=List.mem_iff_getElem?.1 hr
  have hil:=(List.getElem?_eq_some_iff.1 hi).1
  have hil2:i<K.length:=by
   rw[eQ (by simp[hlobs])]at hil
   simpa using hil
  obtain⟨a,l',q1,_,q2⟩:=hgetL i K[i] (List.getElem?_eq_getElem hil2)
  have e1:(bC lent)[i]? =some (some a.ob):=by rw[eZ,q1];rfl
  rw[bI (by simp[hlobs]) e1,iX (List.getElem?_eq_getElem hil2)]at hi
  injection hi with hi
  subst hi
  rw[show aP (some a.ob) (co cs K[i])=aP (some ⟨a.t,a.z,l'⟩) (co cs K[i]) from iY _ _]at hbr
  exact hb K[i] (List.getElem_mem hil2) _ q2 hbr
 have q1:=hin2 b hb
 rw[List.flatMap_append,List.mem_append]at q1
 rcases q1 with q1 | q1
 ·rcases(h3.blk b q1).1 with q2 | q2
  ·exact .inl (hlentS b q2)
  exact .inr q2
 exact .inl (hrest b q1)
end
end Go.Proofs.YtcaakamelngceaaGreatDoor
