/- Part 4 of a proof: Av18 to Av21. -/
import Derived.Test.YthmgbcdidlkpoaaGreatM3
import Derived.Test.YthmgbcdidlkpoaaGreatChecked
set_option maxRecDepth 100000
set_option linter.unusedVariables false
set_option linter.unusedSimpArgs false
namespace Go.Proofs.YthmgbcdidlkpoaaGreat
open Go Go.RowKit
section
variable {x:Cx}{g g':Nat→FV}{ob ob':List (Option Ob)}{cs cs':List Co}{ts ts':Array Value}{W W':World}{T:List (Nat×TI)}{Q:Post}{ops:Array Oper}{d:Nat}{op:Op}{ty:TypeId}{pos:String}{af:Array Edge}{gd:Option (Nat×Bool)}{late:Nat→Bool}{K fr:List Nat}{on:Bool}{fuel:Nat}{listed:Array Bool}
theorem tG {v:FV}:∀j,some d≠some j→aZ g d v j=g j:=fun j hj=>by
 have hb:Nat.beq j d=false:=by
  cases hq:Nat.beq j d
  ·rfl
  exact absurd (by rw[Nat.eq_of_beq_eq_true hq]) hj
 simp[aZ,hb]
theorem dn (i:Nat) (hi:ops[i]? =some ⟨some d,op,ty,pos,af,gd⟩) (hst:jH ops late listed i=true) (hw:bC ops x.n g gd=some false)
  (k:WD x ops Q late K fr true fuel (listed.setIfInBounds i true) (aZ g d (.one (tv undef))) ob):WD x ops Q late K fr true (fuel+1) listed g ob:=by
 intro Kp W1 cs ts W hR hK1 hK2 hon
 have hk:=hon rfl
 simp only[jH,Bool.and_eq_true]at hst
 obtain⟨s1,s2,s3,s4⟩:=hst
 exact sC hi (Region.noSelect_spec s1) (fun c a w h=>h) (fun j oj hj hlj=>nH s4 j oj hj hlj) fuel listed _ W (Region.free_spec hi s2) (by simpa using s3) (.inr ⟨lO hw hR,rfl⟩) hk.same
  (k Kp W1 cs _ W (hR.put d (v:=.one (tv undef)) (gB (by simp[tv,AR,FR]))) hK1 hK2 fun _=>hk.put hR.1 (v:=.one (tv undef)) (gB (by simp[tv,AR,FR])))
theorem WD.split {t:Nat}{p:Prop} [Decidable p] (h:lk x.n g (.tmp t)=.one (tv (.bool (decide p)))) (ht:g t=.one (tv (.bool (decide p)))) (h1:p→WD x ops Q late K fr on fuel listed (aZ g t (.one (tv (.bool true)))) ob) (h2:¬p→WD x ops Q late K fr on fuel listed (aZ g t (.one (tv (.bool false)))) ob):WD x ops Q late K fr on fuel listed g ob:=by
 have key:∀b:Bool,decide p=b→aZ g t (.one (tv (.bool b)))=g:=fun b hb=>by
  funext i
  unfold aZ
  cases hq:Nat.beq i t
  ·rfl
  rw[Nat.eq_of_beq_eq_true hq,ht,hb]
  rfl
 by_cases hp:p
 ·rw[←key true (by simp[hp])]
  exact h1 hp
 rw[←key false (by simp[hp])]
 exact h2 hp
theorem WL.split {t:Nat}{rest:List Oper}{p:Prop} [Decidable p] (ht:g t=.one (tv (.bool (decide p)))) (h1:p→WL x ops rest (aZ g t (.one (tv (.bool true)))) ob Q) (h2:¬p→WL x ops rest (aZ g t (.one (tv (.bool false)))) ob Q):WL x ops rest g ob Q:=by
 have key:∀b:Bool,decide p=b→aZ g t (.one (tv (.bool b)))=g:=fun b hb=>by
  funext i
  unfold aZ
  cases hq:Nat.beq i t
  ·rfl
  rw[Nat.eq_of_beq_eq_true hq,ht,hb]
  rfl
 by_cases hp:p
 ·rw[←key true (by simp[hp])]
  exact h1 hp
 rw[←key false (by simp[hp])]
 exact h2 hp
def EH (K:List Nat) (ob:List (Option Ob)):Bool:=K.all fun k=>Nat.blt k ob.length
theorem Zh {o:Option Ob}{l:List (Option Ob)}(h:EH K ob=true) (k:Nat) (hk:k∈K):(ob++l)[k]? =ob[k]? :=by
 have:=List.all_eq_true.1 h k hk
 have hlt:k<ob.length:=by simpa[Nat.blt,Nat.lt_iff_add_one_le]using this
 exact List.getElem?_append_left hlt
def mU (ob ob':List (Option Ob)):List Nat→Prop
 | []=>True
 | k::K=>ob'[k]? =ob[k]? ∧mU ob ob' K
theorem gT:∀{K:List Nat},mU ob ob' K→∀k∈K,ob'[k]? =ob[k]?
 | [],_,k,hk=>by simp at hk
 | k0::K,h,k,hk=>by
  rcases List.mem_cons.1 hk with rfl | hk
  ·exact h.1
  exact gT h.2 k hk
theorem Mf {o:Oper}{R:(Nat→FV)→List (Option Ob)→Prop}{v:FV}(i:Nat) (hr:Region.ready .any ops listed=[i]) (hi:ops[i]? =some o) (hd:o.dst=some d) (hw:bC ops x.n g o.guard=some true) (h:OS x o g ob [] R)
  (hg:∀g' ob',R g' ob'→g'=aZ g d v∧∀k∈K,ob'[k]? =ob[k]?) (k:∀g' ob',R g' ob'→WD x ops Q late K (d::fr) true fuel (listed.setIfInBounds i true) g' ob'):WD x ops Q late K fr true (fuel+1) listed g ob:=by
 refine Em i hr hi hw h true (fun _=>⟨rfl,fun _ _ h=>by simp at h⟩) (fun _=>rfl) (fun _ g' ob' hR=>?_) fun g' ob' hR=>by rw[hd];exact k g' ob' hR
 obtain⟨h1,h2⟩:=hg g' ob' hR
 exact⟨by rw[hd,h1];exact tG,h2⟩
theorem EI {fresh:Bool}{f:FuncId}{args:List FV}{r v:FV}{aa:Array Operand}{ats:Array TypeId}(i:Nat) (hr:Region.ready .any ops listed=[i]) (hi:ops[i]? =some ⟨some d,.call ⟨.value (.func f),aa,ats⟩,ty,pos,af,gd⟩) (hw:bC ops x.n g gd=some true) (hS:aC fresh x.P f [] args (aM r)) (hf:CallOk x.P f) (ha:AL fresh x g ob aa.toList args) (hv:vH r=v)
  (k:WD x ops Q late K (d::fr) true fuel (listed.setIfInBounds i true) (aZ g d v) ob):WD x ops Q late K fr true (fuel+1) listed g ob:=
 Mf (v:=v) i hr hi rfl hw (zU hS hf ha) (by rintro _ _ ⟨r',rfl,rfl,rfl⟩;exact⟨by rw[hv],fun _ _=>rfl⟩) (by rintro _ _ ⟨r',rfl,rfl,rfl⟩;rw[hv];exact k)
theorem eA {t key:Nat}(i:Nat) (hr:Region.ready .any ops listed=[i]) (hi:ops[i]? =some ⟨some d,.alloc t,ty,pos,af,gd⟩) (hw:bC ops x.n g gd=some true) (hT:bV x.P T) (h:zN T t key ob=some ob') (hke:mU ob ob' K)
  (k:WD x ops Q late K (d::fr) true fuel (listed.setIfInBounds i true) (aZ g d (.one (.pt key 0))) ob'):WD x ops Q late K fr true (fuel+1) listed g ob:=
 Mf (v:=.one (.pt key 0)) i hr hi rfl hw (Ly hT h) (by rintro _ _ ⟨rfl,rfl⟩;exact⟨rfl,gT hke⟩) (by rintro _ _ ⟨rfl,rfl⟩;exact k)
theorem Fa {o:Oper}{R:(Nat→FV)→List (Option Ob)→Prop}{v:FV}(i:Nat) (hi:ops[i]? =some o) (hd:o.dst=some d) (hw:bC ops x.n g o.guard=some true) (h:OS x o g ob [] R)
  (hg:∀g' ob',R g' ob'→g'=aZ g d v∧∀k∈K,ob'[k]? =ob[k]?) (k:∀g' ob',R g' ob'→WD x ops Q late K (d::fr) true fuel (listed.setIfInBounds i true) g' ob'):WO x ops Q late K fr true fuel listed i g ob:=by
 refine Wh i hi hw h true (fun _=>⟨rfl,fun _ _ h=>by simp at h⟩) (fun _=>rfl) (fun _ g' ob' hR=>?_) fun g' ob' hR=>by rw[hd];exact k g' ob' hR
 obtain⟨h1,h2⟩:=hg g' ob' hR
 exact⟨by rw[hd,h1];exact tG,h2⟩
theorem EJ {fresh:Bool}{f:FuncId}{args:List FV}{r v:FV}{aa:Array Operand}{ats:Array TypeId}(i:Nat) (hi:ops[i]? =some ⟨some d,.call ⟨.value (.func f),aa,ats⟩,ty,pos,af,gd⟩) (hw:bC ops x.n g gd=some true) (hS:aC fresh x.P f [] args (aM r)) (hf:CallOk x.P f) (ha:AL fresh x g ob aa.toList args) (hv:vH r=v)
  (k:WD x ops Q late K (d::fr) true fuel (listed.setIfInBounds i true) (aZ g d v) ob):WO x ops Q late K fr true fuel listed i g ob:=
 Fa (v:=v) i hi rfl hw (zU hS hf ha) (by rintro _ _ ⟨r',rfl,rfl,rfl⟩;exact⟨by rw[hv],fun _ _=>rfl⟩) (by rintro _ _ ⟨r',rfl,rfl,rfl⟩;rw[hv];exact k)
theorem bU {t key:Nat}(i:Nat) (hi:ops[i]? =some ⟨some d,.alloc t,ty,pos,af,gd⟩) (hw:bC ops x.n g gd=some true) (hT:bV x.P T) (h:zN T t key ob=some ob') (hke:mU ob ob' K)
  (k:WD x ops Q late K (d::fr) true fuel (listed.setIfInBounds i true) (aZ g d (.one (.pt key 0))) ob'):WO x ops Q late K fr true fuel listed i g ob:=
 Fa (v:=.one (.pt key 0)) i hi rfl hw (Ly hT h) (by rintro _ _ ⟨rfl,rfl⟩;exact⟨rfl,gT hke⟩) (by rintro _ _ ⟨rfl,rfl⟩;exact k)
theorem qS {t len key:Nat}{ps:Array (Nat×Operand)}(i:Nat) (hr:Region.ready .any ops listed=[i]) (hi:ops[i]? =some ⟨some d,.buildSlice t len ps,ty,pos,af,gd⟩) (hw:bC ops x.n g gd=some true) (hT:bV x.P T) (h:zV T x.n g t len key ps.toList ob=some ob') (hke:mU ob ob' K)
  (k:WD x ops Q late K (d::fr) true fuel (listed.setIfInBounds i true) (aZ g d (.one (.sl key 0 len))) ob'):WD x ops Q late K fr true (fuel+1) listed g ob:=
 Mf (v:=.one (.sl key 0 len)) i hr hi rfl hw (Md hT h) (by rintro _ _ ⟨rfl,rfl⟩;exact⟨rfl,gT hke⟩) (by rintro _ _ ⟨rfl,rfl⟩;exact k)
theorem dI {C:Prop}{v:FV}(i:Nat) (hr:Region.ready .any ops listed=[i]) (hi:ops[i]? =some ⟨some d,op,ty,pos,af,gd⟩) (hw:bC ops x.n g gd=some true) (hT:bV x.P T) (h:rV T x.n g op=some (C,v)) (hC:C)
  (k:WD x ops Q late K (d::fr) on fuel (listed.setIfInBounds i true) (aZ g d v) ob) (hl:late i=false→on=true):WD x ops Q late K fr on (fuel+1) listed g ob:=by
 refine Em i hr hi hw (EC hT h hC) on (fun h=>⟨h,fun _ _ h=>by simp at h⟩) hl (fun _ g' ob' hR=>?_) fun g' ob' hR=>?_
 ·obtain⟨rfl,rfl⟩:=hR
  exact⟨tG,fun _ _=>rfl⟩
 obtain⟨rfl,rfl⟩:=hR
 exact k
theorem KS {t:Nat}{ti:TI}{a b:Operand}(i:Nat) (hr:Region.ready .any ops listed=[i]) (hi:ops[i]? =some ⟨none,.store t a b,ty,pos,af,gd⟩) (hw:bC ops x.n g gd=some true) (hT:bV x.P T) (hti:bQ T t=some ti) (h:sY ti ob (lk x.n g b) (lk x.n g a)=some ob') (hl:late i=true)
  (k:WD x ops Q late K fr false fuel (listed.setIfInBounds i true) g ob'):WD x ops Q late K fr on (fuel+1) listed g ob:=by
 obtain⟨ky,hs,_⟩:=Cf (ty:=ty) (pos:=pos) (af:=af) (gd:=gd) hT hti h
 refine Em i hr hi hw hs false (fun h=>by cases h) (fun h=>by rw[hl]at h;cases h) (fun h=>by cases h) fun g' ob' hR=>?_
 obtain⟨rfl,rfl⟩:=hR
 exact k
theorem aR {t key o:Nat}{ti:TI}{a b:Operand}(i:Nat) (hr:Region.ready .any ops listed=[i]) (hi:ops[i]? =some ⟨none,.store t a b,ty,pos,af,gd⟩) (hw:bC ops x.n g gd=some true) (hT:bV x.P T) (hti:bQ T t=some ti) (h:sY ti ob (lk x.n g b) (lk x.n g a)=some ob') (hlk:lk x.n g a=.one (.pt key o)) (hK:K.contains key=false) (hke:mU ob ob' K)
  (k:WD x ops Q late K fr true fuel (listed.setIfInBounds i true) g ob'):WD x ops Q late K fr true (fuel+1) listed g ob:=by
 obtain⟨ky,hs,o2,hlk2⟩:=Cf (ty:=ty) (pos:=pos) (af:=af) (gd:=gd) hT hti h
 rw[hlk]at hlk2
 injection hlk2 with e
 injection e with e1 e2
 subst e1
 refine Em i hr hi hw hs true (fun _=>⟨rfl,fun k hk hm=>?_⟩) (fun _=>rfl) (fun _ g' ob' hR=>?_) fun g' ob' hR=>?_
 ·rw[List.mem_singleton]at hm
  subst hm
  have:K.contains k=true:=by simpa using hk
  rw[hK]at this
  cases this
 ·obtain⟨rfl,rfl⟩:=hR
  exact⟨fun _ _=>rfl,gT hke⟩
 obtain⟨rfl,rfl⟩:=hR
 exact k
theorem WL.splitb {t:Nat}{rest:List Oper}{b:Bool}(ht:g t=.one (tv (.bool b))) (h1:b=true→WL x ops rest (aZ g t (.one (tv (.bool true)))) ob Q) (h2:b=false→WL x ops rest (aZ g t (.one (tv (.bool false)))) ob Q):WL x ops rest g ob Q:=by
 have key:∀b':Bool,b=b'→aZ g t (.one (tv (.bool b')))=g:=fun b' hb=>by
  funext i
  unfold aZ
  cases hq:Nat.beq i t
  ·rfl
  rw[Nat.eq_of_beq_eq_true hq,ht,hb]
  rfl
 cases hb:b
 ·rw[←key false hb]
  exact h2 hb
 rw[←key true hb]
 exact h1 hb
theorem WD.splitb {t:Nat}{b:Bool}(ht:g t=.one (tv (.bool b))) (h1:b=true→WD x ops Q late K fr on fuel listed (aZ g t (.one (tv (.bool true)))) ob) (h2:b=false→WD x ops Q late K fr on fuel listed (aZ g t (.one (tv (.bool false)))) ob):WD x ops Q late K fr on fuel listed g ob:=by
 have key:∀b':Bool,b=b'→aZ g t (.one (tv (.bool b')))=g:=fun b' hb=>by
  funext i
  unfold aZ
  cases hq:Nat.beq i t
  ·rfl
  rw[Nat.eq_of_beq_eq_true hq,ht,hb]
  rfl
 cases hb:b
 ·rw[←key false hb]
  exact h2 hb
 rw[←key true hb]
 exact h1 hb
theorem WL.cast {t:Nat}{rest:List Oper}{u u':Value}(ht:g t=.one (tv u)) (e:u=u') (k:WL x ops rest (aZ g t (.one (tv u'))) ob Q):WL x ops rest g ob Q:=by
 have:aZ g t (.one (tv u'))=g:=by
  funext i
  unfold aZ
  cases hq:Nat.beq i t
  ·rfl
  rw[Nat.eq_of_beq_eq_true hq,ht,e]
  rfl
 rwa[this]at k
theorem WD.cast {t:Nat}{u u':Value}(ht:g t=.one (tv u)) (e:u=u') (k:WD x ops Q late K fr on fuel listed (aZ g t (.one (tv u'))) ob):WD x ops Q late K fr on fuel listed g ob:=by
 have:aZ g t (.one (tv u'))=g:=by
  funext i
  unfold aZ
  cases hq:Nat.beq i t
  ·rfl
  rw[Nat.eq_of_beq_eq_true hq,ht,e]
  rfl
 rwa[this]at k
theorem aK {k:IntKind}{a b:Int}(h:a=b):Value.int k a=.int k b:=by rw[h]
theorem Sub.trans {g2:Nat→FV}{ob2:List (Option Ob)}(h:Sub x g ob g' ob') (h':Sub x g' ob' g2 ob2):Sub x g ob g2 ob2:=fun ts W hR=>h' ts W (h ts W hR)
theorem Sub.refl:Sub x g ob g ob:=fun _ _ h=>h
theorem nr {i:Nat}(key e z:Nat) (hz:Nat.beq z 0=false) (hk:dQ ob key=true) (hi:Nat.blt i x.n=true) (hg:g i=.one (tv (.slice none 0 0))):Sub x g ob (aZ g i (.one (.sl key 0 0))) (ob++[some ⟨e,z,[]⟩]):=by
 rintro ts W ⟨cs,hR⟩
 have hk:=Nat.eq_of_beq_eq_true hk
 have hi:i<x.n:=by simpa[Nat.blt,Nat.lt_iff_add_one_le]using hi
 have hz0:z≠0:=fun e=>by subst e;simp at hz
 have m1:=hR.push (Below.refl _ _) ⟨e,z,[]⟩ ⟨none,0,[]⟩ (by simp[aG]) (by simp[aG]) (by simp[aG]) (by simp[bH]) (fun _=>⟨rfl,hz0⟩)
 obtain⟨u,h1,h2⟩:=hR.fv hi
 rw[hg]at h2
 have h2:=aQ h2
 subst h2
 have m2:=m1.put i (v:=.one (.sl key 0 0)) (u:=.slice none 0 0) (by
  refine gB ?_
  simp only[AR]
  rw[←hk,hR.len,fJ]
  exact⟨by simp,by trivial,by trivial,by trivial⟩)
 have e:ts.setIfInBounds i (.slice none 0 0)=ts:=by
  apply Array.ext_getElem?
  intro j
  rw[Array.getElem?_setIfInBounds]
  split
  ·rename_i e
   subst e
   split
   ·exact h1.symm
   rename_i h9
   rw[hR.1]at h9
   exact absurd hi h9
  rfl
 rw[e]at m2
 exact⟨_,m2⟩
theorem Wk {t e z by_ n m j:Nat}{zz:Value}{ti:Bool}{ts0:Nat}{z0:List Value}{a b:Operand}{av bv:AV}{l news:List AV}(i:Nat) (hi:ops[i]? =some ⟨some d,.call ⟨.builtin .append, #[a,b], #[t,t]⟩,ty,pos,af,gd⟩) (hT:bV x.P T) (ht:bQ T t=some ⟨ti,ts0,z0,.sl e z by_ zz⟩) (ha:lk x.n g a=.one av) (hb:lk x.n g b=.one bv)
  (hd:DstA ob e z av n ob' l) (hs:SrcA ob z bv m news) (hrd:fU news=true) (hlo:dU news=true) (hbytes:(n+m)*by_≤140737488355328) (h63:n+m≤140737488355328) (hK:K=[]) (hj:dQ ob j=true) (hr:Region.ready .any ops listed=[i]) (hw:bC ops x.n g gd=some true)
  (k:WD x ops Q late K (d::fr) true fuel (listed.setIfInBounds i true) (aZ g d (.one (.sl j 0 (n+m)))) (ob'++[some ⟨e,z,l++news⟩])):WD x ops Q late K fr true (fuel+1) listed g ob:=by
 subst hK
 obtain⟨Wr,h,_⟩:=Pn (d:=d) (ty:=ty) (pos:=pos) (af:=af) (gd:=gd) hT ht ha hb hd hs hrd hlo hj hbytes h63
 refine Em i hr hi hw h true (fun _=>⟨rfl,fun _ h=>by simp at h⟩) (fun _=>rfl) (fun _ g' ob' hR=>?_) fun g' ob' hR=>?_
 ·obtain⟨rfl,rfl⟩:=hR
  exact⟨tG,fun _ h=>by simp at h⟩
 obtain⟨rfl,rfl⟩:=hR
 exact k
end
def tH (k:Nat):AV→Option (AV×List Ob)
 | .t (.s true t z n l)=>match Nat.beq z 0 with
  | false=>some (.sl k 0 n,[⟨t,z,l.map .t⟩])
  | true=>none
 | .t (.p true t l)=>some (.pt k 0,[⟨t,0,l.map .t⟩])
 | .t (.s false t z n l)=>some (.t (.s false t z n l),[])
 | .t (.p false t l)=>some (.t (.p false t l),[])
 | .t (.v v)=>some (.t (.v v),[])
 | .t (.f g l0 l)=>some (.t (.f g l0 l),[])
 | _=>none
def mK (k:Nat):List AV→Option (List AV×List Ob)
 | []=>some ([],[])
 | a::l=>match tH k a with
  | some (a',[])=>match mK k l with
   | some (l',os)=>some (a'::l',os)
   | none=>none
  | some (a',o::_)=>match mK (k+1) l with
   | some (l',os)=>some (a'::l',o::os)
   | none=>none
  | none=>none
def gM:VT→Co
 | .w _=>⟨none,0,[]⟩
 | .s b c _ _ _ l=>⟨some b,c,l⟩
 | .p b _ l=>⟨some b,0,l⟩
section
variable {W:World}{N:Nat→Prop}
theorem uS {k:Nat}{a a':AV}{os:List Ob}{y:VT}(hc:CR W N [] a y) (hok:y.ok W) (h:tH k a=some (a',os)):
  (os=[]∧y.fp=[]∧∀(N':Nat→Prop) (cs:List Co),(∀b,N b→N' b)→AR W N' cs a' y.val)∨
  (∃o,os=[o]∧(aG (some o) (gM y)).S=y.fp∧(aG (some o) (gM y)).φ W∧(∀(N':Nat→Prop) (cs:List Co),(∀b,N b→N' b)→k<cs.length→co cs k=gM y→AR W N' cs a' y.val∧bH W N' cs o.l (gM y).l)∧((gM y).b=none→o.l=[]∧o.z≠0)):=by
 unfold tH at h
 split at h
 ·rename_i t z n l
  split at h
  ·rename_i hz
   injection h with h
   injection h with h1 h2
   subst h1 h2
   refine .inr ⟨_,rfl,?_⟩
   have hz0:z≠0:=fun e=>by subst e;simp at hz
   simp only[CR]at hc
   cases y with
   | w u=>
    simp only[OR]at hc
    rcases hc with⟨_,rfl,rfl,rfl⟩ | ⟨hc,_⟩
    ·refine⟨rfl,by simp[aG,gM],fun N' cs hN hk hco=>⟨?_,by simp[bH,gM]⟩,fun _=>⟨rfl,hz0⟩⟩
     simp only[AR,hco,gM,VT.val]
     exact⟨hk,by trivial,by trivial,by trivial⟩
    cases hc
   | s b c t' z' n' l'=>
    simp only[OR]at hc
    obtain⟨_,rfl,rfl,rfl,hl⟩:=hc
    simp only[VT.ok]at hok
    obtain⟨k1,k2,k3,k4,k5⟩:=hok
    refine⟨rfl,?_,fun N' cs hN hk hco=>⟨?_,zS (ORL_keep (fun _ _=>rfl) hN _ _ hl)⟩,fun h=>by cases h⟩
    ·simp only[aG,gM]
     rw[hz,cond_false]
     exact⟨k1,k5,k3⟩
    simp only[AR,hco,gM,VT.val]
    exact⟨hk,0,c,rfl,k2,by unfold maxLen at k3;omega,fun _=>rfl,fun _=>rfl⟩
   | p b t' l'=>simp only[OR]at hc
  cases h
 ·rename_i t l
  injection h with h
  injection h with h1 h2
  subst h1 h2
  refine .inr ⟨_,rfl,?_⟩
  simp only[CR]at hc
  cases y with
  | w u=>
   simp only[OR]at hc
   cases hc.1
  | s b c t' z' n' l'=>simp only[OR]at hc
  | p b t' l'=>
   simp only[OR]at hc
   obtain⟨_,rfl,hl⟩:=hc
   simp only[VT.ok]at hok
   refine⟨rfl,?_,fun N' cs hN hk hco=>⟨?_,zS (ORL_keep (fun _ _=>rfl) hN _ _ hl)⟩,fun h=>by cases h⟩
   ·simp only[aG,gM]
    exact⟨hok.1,hok.2,Nat.zero_le _⟩
   simp only[AR,hco,gM,VT.val]
   exact⟨b,rfl,rfl⟩
 ·injection h with h
  injection h with h1 h2
  subst h1 h2
  have hr:=xL hc rfl
  refine .inl ⟨rfl,?_,fun N' cs hN=>fI (fun _ _=>rfl) hN ⟨Nat.zero_le _,fun k hk=>by simp at hk⟩ _ _ hr⟩
  simp only[CR]at hc
  cases y with
  | w u=>rfl
  | s=>simp only[OR]at hc;cases hc.1
  | p=>simp only[OR]at hc
 ·injection h with h
  injection h with h1 h2
  subst h1 h2
  have hr:=xL hc rfl
  refine .inl ⟨rfl,?_,fun N' cs hN=>fI (fun _ _=>rfl) hN ⟨Nat.zero_le _,fun k hk=>by simp at hk⟩ _ _ hr⟩
  simp only[CR]at hc
  cases y with
  | w u=>rfl
  | s=>simp only[OR]at hc
  | p=>simp only[OR]at hc;cases hc.1
 ·injection h with h
  injection h with h1 h2
  subst h1 h2
  have hr:=xL hc rfl
  refine .inl ⟨rfl,?_,fun N' cs hN=>fI (fun _ _=>rfl) hN ⟨Nat.zero_le _,fun k hk=>by simp at hk⟩ _ _ hr⟩
  simp only[CR,OR]at hc
  subst hc
  rfl
 ·injection h with h
  injection h with h1 h2
  subst h1 h2
  have hr:=xL hc rfl
  refine .inl ⟨rfl,?_,fun N' cs hN=>fI (fun _ _=>rfl) hN ⟨Nat.zero_le _,fun k hk=>by simp at hk⟩ _ _ hr⟩
  simp only[CR]at hc
  cases y with
  | w u=>rfl
  | s=>simp only[OR]at hc
  | p=>simp only[OR]at hc
 cases h
theorem uT:∀{l l':List AV}{k:Nat}{os:List Ob}{ys:List VT},bH W N [] l ys→VT.okL W ys→mK k l=some (l',os)→∃cs2:List Co,cs2.length=os.length∧(aD (os.map some) cs2).flatMap Res.S=VT.fpL ys∧(∀r∈aD (os.map some) cs2,r.φ W)∧
  ∀(N':Nat→Prop) (cs:List Co),(∀b,N b→N' b)→k+os.length≤cs.length→(∀i,i<os.length→co cs (k+i)=co cs2 i)→ARL W N' cs l' (ys.map VT.val)∧∀(i:Nat) (o:Ob),os[i]? =some o→bH W N' cs o.l (co cs2 i).l∧((co cs2 i).b=none→o.l=[]∧o.z≠0)
 | [],l',k,os,ys,hc,hok,h=>by
  simp only[bH]at hc
  subst hc
  simp[mK]at h
  obtain⟨rfl,rfl⟩:=h
  exact⟨[],rfl,rfl,by simp[aD],fun N' cs hN hk hco=>⟨by simp[ARL],fun i o ho=>by simp at ho⟩⟩
 | a::l,l',k,os,[],hc,hok,h=>by simp only[bH]at hc
 | a::l,l',k,os,y::ys,hc,hok,h=>by
  simp only[bH]at hc
  simp only[VT.okL]at hok
  unfold mK at h
  split at h
  ·rename_i a' ha
   split at h
   ·rename_i l2 os2 hl
    injection h with h
    injection h with h1 h2
    subst h1 h2
    obtain⟨cs2,e1,e2,e3,e4⟩:=uT hc.2 hok.2 hl
    rcases uS hc.1 hok.1 ha with⟨_,f1,f2⟩ | ⟨o,f1,_⟩
    ·refine⟨cs2,e1,by rw[e2];simp[VT.fpL,f1],e3,fun N' cs hN hk hco=>?_⟩
     obtain⟨g1,g2⟩:=e4 N' cs hN hk hco
     simp only[List.map_cons,ARL]
     exact⟨⟨f2 N' cs hN,g1⟩,g2⟩
    cases f1
   cases h
  ·rename_i a' o os0 ha
   split at h
   ·rename_i l2 os2 hl
    injection h with h
    injection h with h1 h2
    subst h1 h2
    obtain⟨cs2,e1,e2,e3,e4⟩:=uT hc.2 hok.2 hl
    rcases uS hc.1 hok.1 ha with⟨f1,_⟩ | ⟨o',f1,f2,f3,f4,f5⟩
    ·cases f1
    injection f1 with f1 _
    subst f1
    refine⟨gM y::cs2,by simp[e1],?_,?_,fun N' cs hN hk hco=>?_⟩
    ·unfold aD at e2⊢
     simp only[List.map_cons,List.zipWith_cons_cons,List.flatMap_cons,VT.fpL,f2,e2]
    ·unfold aD at e3⊢
     simp only[List.map_cons,List.zipWith_cons_cons]
     intro r hr
     rcases List.mem_cons.1 hr with rfl | hr
     ·exact f3
     exact e3 r hr
    simp only[List.length_cons]at hk hco
    have h0:=hco 0 (by omega)
    obtain⟨g1,g2⟩:=f4 N' cs hN (by omega) h0
    obtain⟨g3,g4⟩:=e4 N' cs hN (by omega) (fun i hi=>by
     have:=hco (i+1) (by omega)
     rw[show k+(i+1)=k+1+i by omega]at this
     rw[this]
     simp[co])
    simp only[List.map_cons,ARL]
    refine⟨⟨g1,g3⟩,fun i o ho=>?_⟩
    cases i with
    | zero=>
     simp at ho
     subst ho
     exact⟨g2,f5⟩
    | succ i=>
     have:=g4 i o (by simpa using ho)
     simpa[co]using this
   cases h
  cases h
end
def tI (k:Nat):FV→Option (FV×List Ob)
 | .one a=>match tH k a with
  | some (a',os)=>some (.one a',os)
  | none=>none
 | .agg l=>match mK k l with
  | some (l',os)=>some (.agg l',os)
  | none=>none
 | _=>none
def wK (k:Nat):List FV→Option (List FV×List Ob)
 | []=>some ([],[])
 | a::l=>match tI k a with
  | some (a',os)=>match wK (k+os.length) l with
   | some (l',os')=>some (a'::l',os++os')
   | none=>none
  | none=>none
def kE (k:Nat):FV→Option (FV×List Ob)
 | .tup l=>match wK k l with
  | some (l',os)=>some (.tup l',os)
  | none=>none
 | v=>tI k v
section
variable {W:World}{N:Nat→Prop}
def Bnd (W:World) (N:Nat→Prop) (k:Nat) (os:List Ob) (ys:List VT) (A:(Nat→Prop)→List Co→Prop):Prop:=∃cs2:List Co,cs2.length=os.length∧(aD (os.map some) cs2).flatMap Res.S=VT.fpL ys∧(∀r∈aD (os.map some) cs2,r.φ W)∧
  ∀(N':Nat→Prop) (cs:List Co),(∀b,N b→N' b)→k+os.length≤cs.length→(∀i,i<os.length→co cs (k+i)=co cs2 i)→A N' cs∧∀(i:Nat) (o:Ob),os[i]? =some o→bH W N' cs o.l (co cs2 i).l∧((co cs2 i).b=none→o.l=[]∧o.z≠0)
theorem zW {k:Nat}{r v:FV}{os:List Ob}{u:Value}{ys:List VT}(hr:rW W N [] r u ys) (hok:VT.okL W ys) (h:tI k r=some (v,os)):Bnd W N k os ys (fun N' cs=>bO W N' cs v u):=by
 cases r with
 | any=>exact hr.elim
 | tup l=>exact hr.elim
 | one a=>
  obtain⟨z,rfl,rfl,hc⟩:=hr
  unfold tI at h
  dsimp only at h
  split at h
  ·rename_i a' os' ha
   injection h with h
   injection h with h1 h2
   subst h1 h2
   have hl:mK k [a]=some ([a'],os')∨∃o r,os'=o::r:=by
    cases os' with
    | nil=>left;simp[mK,ha]
    | cons o r=>exact .inr ⟨o,r,rfl⟩
   have hl2:mK k [a]=some ([a'],os'):=by
    rcases hl with hl | ⟨o,r,rfl⟩
    ·exact hl
    have hr':r=[]:=by
     rcases uS hc (by simpa[VT.okL]using hok) ha with⟨f1,_⟩ | ⟨o',f1,_⟩
     ·cases f1
     injection f1
    subst hr'
    simp[mK,ha]
   obtain⟨cs2,e1,e2,e3,e4⟩:=uT (l:=[a]) (ys:=[z]) (by simp only[bH];exact⟨hc,trivial⟩) hok hl2
   refine⟨cs2,e1,e2,e3,fun N' cs hN hk hco=>?_⟩
   obtain⟨g1,g2⟩:=e4 N' cs hN hk hco
   simp only[List.map_cons,ARL]at g1
   exact⟨g1.1,g2⟩
  cases h
 | agg l=>
  obtain⟨rfl,hc⟩:=hr
  unfold tI at h
  dsimp only at h
  split at h
  ·rename_i l' os' hl
   injection h with h
   injection h with h1 h2
   subst h1 h2
   obtain⟨cs2,e1,e2,e3,e4⟩:=uT hc hok hl
   refine⟨cs2,e1,e2,e3,fun N' cs hN hk hco=>?_⟩
   obtain⟨g1,g2⟩:=e4 N' cs hN hk hco
   exact⟨⟨_,rfl,g1⟩,g2⟩
  cases h
theorem Bnd.app {k:Nat}{os os':List Ob}{ys ys':List VT}{A B:(Nat→Prop)→List Co→Prop}(h:Bnd W N k os ys A) (h':Bnd W N (k+os.length) os' ys' B):Bnd W N k (os++os') (ys++ys') (fun N cs=>A N cs∧B N cs):=by
 obtain⟨c1,a1,a2,a3,a4⟩:=h
 obtain⟨c2,b1,b2,b3,b4⟩:=h'
 have hr:aD ((os++os').map some) (c1++c2)=aD (os.map some) c1++aD (os'.map some) c2:=by
  unfold aD
  rw[List.map_append,List.zipWith_append (by simp[a1])]
 have hc1:∀i,i<os.length→co (c1++c2) i=co c1 i:=fun i hi=>by simp[co,List.getElem?_append_left (show i<c1.length by omega)]
 have hc2:∀i,co (c1++c2) (os.length+i)=co c2 i:=fun i=>by
  unfold co
  rw[List.getElem?_append_right (by omega),show os.length+i-c1.length=i by omega]
 refine⟨c1++c2,by simp[a1,b1],by rw[hr,List.flatMap_append,a2,b2,iW],fun r hm=>?_,fun N' cs hN hk hco=>?_⟩
 ·rw[hr]at hm
  rcases List.mem_append.1 hm with hm | hm
  ·exact a3 r hm
  exact b3 r hm
 simp only[List.length_append]at hk hco
 obtain⟨g1,g2⟩:=a4 N' cs hN (by omega) (fun i hi=>by rw[hco i (by omega),hc1 i hi])
 obtain⟨g3,g4⟩:=b4 N' cs hN (by omega) (fun i hi=>by
  have:=hco (os.length+i) (by omega)
  rw[hc2,show k+(os.length+i)=k+os.length+i by omega]at this
  exact this)
 refine⟨⟨g1,g3⟩,fun i o ho=>?_⟩
 rcases Nat.lt_or_ge i os.length with hi | hi
 ·rw[List.getElem?_append_left hi]at ho
  rw[hc1 i hi]
  exact g2 i o ho
 rw[List.getElem?_append_right hi]at ho
 have:=g4 (i-os.length) o ho
 rw[←hc2,show os.length+(i-os.length)=i by omega]at this
 exact this
theorem Ji:∀{l l':List FV}{k:Nat}{os:List Ob}{us:List Value}{ys:List VT},tC W N [] l us ys→VT.okL W ys→wK k l=some (l',os)→Bnd W N k os ys (fun N' cs=>cL W N' cs l' us)
 | [],l',k,os,us,ys,hr,hok,h=>by
  simp[wK]at h
  obtain⟨rfl,rfl⟩:=h
  obtain⟨rfl,rfl⟩:=hr
  exact⟨[],rfl,rfl,by simp[aD],fun N' cs hN hk hco=>⟨by simp[cL],fun i o ho=>by simp at ho⟩⟩
 | a::l,l',k,os,us,ys,⟨v,vs,y1,y2,h1,h2,h3,h4⟩,hok,h=>by
  subst h1 h2
  rw[lN]at hok
  unfold wK at h
  split at h
  ·rename_i a' os1 ha
   split at h
   ·rename_i l2 os2 hl
    injection h with h
    injection h with e1 e2
    subst e1 e2
    have q1:=zW h3 hok.1 ha
    have q2:=Ji h4 hok.2 hl
    obtain⟨cs2,e1,e2,e3,e4⟩:=q1.app q2
    exact⟨cs2,e1,e2,e3,fun N' cs hN hk hco=>by
     obtain⟨g1,g2⟩:=e4 N' cs hN hk hco
     exact⟨by simp only[cL];exact g1,g2⟩⟩
   cases h
  cases h
theorem Fb {k:Nat}{r v:FV}{os:List Ob}{u:Value}{ys:List VT}(hr:RO W N [] r u ys) (hok:VT.okL W ys) (h:kE k r=some (v,os)):Bnd W N k os ys (fun N' cs=>bG W N' cs v u):=by
 cases r with
 | tup l=>
  obtain⟨us,rfl,h2⟩:=hr
  unfold kE at h
  dsimp only at h
  split at h
  ·rename_i l' os' hl
   injection h with h
   injection h with h1 h2
   subst h1 h2
   obtain⟨cs2,e1,e2,e3,e4⟩:=Ji h2 hok hl
   exact⟨cs2,e1,e2,e3,fun N' cs hN hk hco=>⟨⟨us,rfl,(e4 N' cs hN hk hco).1⟩,(e4 N' cs hN hk hco).2⟩⟩
  cases h
 | any=>exact hr.elim
 | one a=>
  obtain⟨cs2,e1,e2,e3,e4⟩:=zW (r:=.one a) hr hok h
  exact⟨cs2,e1,e2,e3,fun N' cs hN hk hco=>⟨pT (e4 N' cs hN hk hco).1,(e4 N' cs hN hk hco).2⟩⟩
 | agg l=>
  obtain⟨cs2,e1,e2,e3,e4⟩:=zW (r:=.agg l) hr hok h
  exact⟨cs2,e1,e2,e3,fun N' cs hN hk hco=>⟨pT (e4 N' cs hN hk hco).1,(e4 N' cs hN hk hco).2⟩⟩
end
section
variable {x:Cx}{g g':Nat→FV}{ob ob':List (Option Ob)}{cs cs':List Co}{ts ts':Array Value}{W W':World}{T:List (Nat×TI)}{Q:Post}{ops:Array Oper}{rest:List Oper}{d:Nat}{ty:TypeId}{pos:String}{af:Array Edge}{gd:Option (Nat×Bool)}
theorem Fc {fresh:Bool}{f:FuncId}{args:List FV}{R:List Lt→FV→Prop}{aa:Array Operand}{ats:Array TypeId}{key:Nat}(hS:aC fresh x.P f [] args R) (hf:CallOk x.P f) (ha:AL fresh x g ob aa.toList args) (hk:dQ ob key=true) (hb:∀r,R [] r→(kE key r).isSome=true):
  OS x ⟨some d,.call ⟨.value (.func f),aa,ats⟩,ty,pos,af,gd⟩ g ob [] (fun g' ob'=>∃r v os,R [] r∧kE key r=some (v,os)∧g'=aZ g d v∧ob'=ob++os.map some):=by
 intro cs ts W hR K Q kk
 have hC:=Bi hS ha hR
 obtain⟨fn,c,h1,h2,h3⟩:=hf
 have hrun:(execOp (Act.eval ⟨ts,[]⟩) ⟨some d,.call ⟨.value (.func f),aa,ats⟩,ty,pos,af,gd⟩).run x.P W=.ok (.enter f (aa.toList.map (Act.eval ⟨ts,[]⟩)).toArray) W:=by
  have e0:Act.eval ⟨ts,[]⟩ (.func f)=.func (.func f) #[] #[]:=rfl
  have e1:aa.map (Act.eval ⟨ts,[]⟩)=(aa.toList.map (Act.eval ⟨ts,[]⟩)).toArray:=by apply Array.ext';simp only[Array.toList_map]
  simp[execOp,resolve,e0,Deferred.ofValue,invoke,e1,callFunc,h1,h3]
  intro hn
  rw[hn]at h2
  simp at h2
 unfold Oper.wp
 rw[hrun]
 refine hC.mono fun e W' hE=>?_
 obtain⟨u,r,ys,rfl,hr,hbel,hok,hnd,hfp,hro⟩:=hE
 obtain⟨⟨v,os⟩,hbn⟩:=Option.isSome_iff_exists.1 (hb r hr)
 obtain⟨cs2,e1,e2,e3,e4⟩:=Fb hro hok hbn
 have hk:=Nat.eq_of_beq_eq_true hk
 have hlen:=hR.len
 have hrs:aD (ob++os.map some) (cs++cs2)=aD ob cs++aD (os.map some) cs2:=by
  unfold aD
  rw[List.zipWith_append hlen]
 have hext:=hR.2.ext hbel
 have hnew:∀b∈(aD (os.map some) cs2).flatMap Res.S,W.heap.size≤b∧b<W'.heap.size:=fun b hb=>hfp b (by rw[←e2];exact hb)
 have hL:Loc x.M x.w W' (aD (ob++os.map some) (cs++cs2)) []:=by
  rw[hrs]
  refine⟨hext.chg,fun q hq=>?_,fun b hb=>?_,?_,fun _ h=>by cases h⟩
  ·rcases List.mem_append.1 hq with hq | hq
   ·exact hext.res q hq
   exact e3 q hq
  ·rw[List.flatMap_append,List.mem_append]at hb
   rcases hb with hb | hb
   ·exact hext.blk b hb
   exact⟨.inr (Nat.le_trans hR.2.chg.size (hnew b hb).1),(hnew b hb).2⟩
  rw[List.flatMap_append,List.nodup_append]
  refine⟨hext.nd,by rw[e2];exact hnd,fun a ha b hb e=>?_⟩
  subst e
  have:=(hR.2.blk a ha).2
  have:=(hnew a hb).1
  omega
 have hown:∀b∈cG (ob++os.map some) (cs++cs2),b∈cG ob cs∨W.heap.size≤b:=fun b hb=>by
  unfold cG at hb
  rw[hrs,List.flatMap_append,List.mem_append]at hb
  rcases hb with hb | hb
  ·exact .inl hb
  exact .inr (hnew b hb).1
 have hsame:Same cs (cs++cs2):=⟨by simp,fun k hk=>by simp[co,List.getElem?_append_left hk]⟩
 have hcoA:∀k,k<cs.length→co (cs++cs2) k=co cs k:=fun k hk=>by simp[co,List.getElem?_append_left hk]
 have hcoB:∀i,co (cs++cs2) (key+i)=co cs2 i:=fun i=>by
  unfold co
  rw[List.getElem?_append_right (by omega),show key+i-cs.length=i by omega]
 have hN:∀b,x.fr W ob cs b→x.fr W' (ob++os.map some) (cs++cs2) b:=fun b h=>oJ h hbel.size hown
 have hkeep:∀b,x.fr W ob cs b→W'.heap[b]? =W.heap[b]? :=fun b h=>hbel.block b h.1.1
 have hN2:∀b,(fresh=false∧b∉VT.fpL ys∧b<W'.heap.size∧(x.fr W ob cs b∨W.heap.size≤b))→x.fr W' (ob++os.map some) (cs++cs2) b:=fun b hb=>by
  obtain⟨_,h5,h6,h7⟩:=hb
  rcases h7 with h7 | h7
  ·exact hN b h7
  refine⟨⟨h6,fun hm=>?_⟩,.inr (.inr (Nat.le_trans hR.2.chg.size h7))⟩
  rw[hrs,List.flatMap_append,List.mem_append]at hm
  rcases hm with hm | hm
  ·have:=(hR.2.blk b hm).2
   omega
  exact h5 (by rw[←e2];exact hm)
 obtain⟨g1,g2⟩:=e4 _ (cs++cs2) hN2 (by simp[e1];omega) (fun i _=>hcoB i)
 have hR':RelC x g (ob++os.map some) (cs++cs2) ts W':=by
  refine .of hR.1 hL ⟨by simp[hlen,e1],fun k o hk'=>?_⟩ (fun i hi=>?_) (hR.3.trans hsame)
  ·rcases Nat.lt_or_ge k ob.length with hlt | hge
   ·rw[List.getElem?_append_left hlt]at hk'
    have h5:=hR.obs.2 k o hk'
    rw[hcoA k (by omega)]
    exact⟨cD hkeep hN hsame _ _ h5.1,h5.2⟩
   rw[List.getElem?_append_right hge]at hk'
   have ho:os[k-ob.length]? =some o:=by
    rw[List.getElem?_map]at hk'
    cases hq:os[k-ob.length]? with
    | none=>rw[hq]at hk';cases hk'
    | some o'=>
     rw[hq]at hk'
     simp at hk'
     rw[hk']
   have h5:=g2 _ o ho
   have e9:=hcoB (k-ob.length)
   rw[show key+(k-ob.length)=k by omega]at e9
   rw[e9]
   exact h5
  obtain⟨u,h5,h6⟩:=hR.fv hi
  exact⟨u,h5,dR hkeep hN hsame _ _ h6⟩
 exact kk _ _ _ _ _ ⟨r,v,os,hr,hbn,rfl,rfl⟩ (hR'.put d g1) ⟨hsame,fun k _ hk=>hcoA k hk,hbel.size,fun b hlt _=>hbel.block b hlt,hown,fun i hi=>Array.getElem?_setIfInBounds_ne (fun e=>hi (by rw[e]))⟩
theorem Zj {fresh:Bool}{f:FuncId}{args:List FV}{r v:FV}{os:List Ob}{aa:Array Operand}{ats:Array TypeId}{key:Nat}(hw:bC ops x.n g gd=some true) (hS:aC fresh x.P f [] args (aM r)) (hf:CallOk x.P f) (ha:AL fresh x g ob aa.toList args) (hk:dQ ob key=true) (hb:kE key r=some (v,os)) (k:WL x ops rest (aZ g d v) (ob++os.map some) Q):
  WL x ops (⟨some d,.call ⟨.value (.func f),aa,ats⟩,ty,pos,af,gd⟩::rest) g ob Q:=
 gJ (Fc hS hf ha hk (by rintro _ rfl;rw[hb];rfl)) hw (by
  rintro _ _ ⟨r',v',os',rfl,h,rfl,rfl⟩
  rw[hb]at h
  injection h with h
  injection h with h1 h2
  subst h1 h2
  exact k)
theorem Zk {late:Nat→Bool}{K fr:List Nat}{fuel:Nat}{listed:Array Bool}{fresh:Bool}{f:FuncId}{args:List FV}{r v:FV}{os:List Ob}{aa:Array Operand}{ats:Array TypeId}{key:Nat}(i:Nat) (hr:Region.ready .any ops listed=[i]) (hi:ops[i]? =some ⟨some d,.call ⟨.value (.func f),aa,ats⟩,ty,pos,af,gd⟩) (hw:bC ops x.n g gd=some true) (hS:aC fresh x.P f [] args (aM r)) (hf:CallOk x.P f) (ha:AL fresh x g ob aa.toList args) (hk:dQ ob key=true) (hb:kE key r=some (v,os)) (hK:EH K ob=true)
  (k:WD x ops Q late K (d::fr) true fuel (listed.setIfInBounds i true) (aZ g d v) (ob++os.map some)):WD x ops Q late K fr true (fuel+1) listed g ob:=
 Mf (v:=v) i hr hi rfl hw (Fc hS hf ha hk (by rintro _ rfl;rw[hb];rfl)) (by
  rintro _ _ ⟨r',v',os',rfl,h,rfl,rfl⟩
  rw[hb]at h
  injection h with h
  injection h with h1 h2
  subst h1 h2
  exact⟨rfl,fun k hk'=>Zh (o:=none) hK k hk'⟩) (by
  rintro _ _ ⟨r',v',os',rfl,h,rfl,rfl⟩
  rw[hb]at h
  injection h with h
  injection h with h1 h2
  subst h1 h2
  exact k)
end
set_option maxRecDepth 100000
theorem LZ:eJ Tryz.prog 2 ⟨false,1,[.int .i64 0],.it .i64⟩:=⟨⟨.mk (by kernel_rfl) (by kernel_rfl),rfl⟩,.mk (by kernel_rfl),.mk (by kernel_rfl),.mk (by kernel_rfl)⟩
theorem MA:eJ Tryz.prog 3 ⟨false,1,[.int .i64 0],.it .i64⟩:=⟨⟨.mk (by kernel_rfl) (by kernel_rfl),rfl⟩,.mk (by kernel_rfl),.mk (by kernel_rfl),.mk (by kernel_rfl)⟩
theorem MB:eJ Tryz.prog 4 ⟨false,1,[.bool false],.bl⟩:=⟨⟨.mk (by kernel_rfl) (by kernel_rfl),rfl⟩,.mk (by kernel_rfl),.mk (by kernel_rfl),.mk (by kernel_rfl)⟩
theorem MC:eJ Tryz.prog 5 ⟨false,1,[.int .u8 0],.it .u8⟩:=⟨⟨.mk (by kernel_rfl) (by kernel_rfl),rfl⟩,.mk (by kernel_rfl),.mk (by kernel_rfl),.mk (by kernel_rfl)⟩
theorem MD:eJ Tryz.prog 9 ⟨false,1,[.string ⟨#[]⟩],.str⟩:=⟨⟨.mk (by kernel_rfl) (by kernel_rfl),rfl⟩,.mk (by kernel_rfl),.mk (by kernel_rfl),.mk (by kernel_rfl)⟩
theorem KT:eJ Tryz.prog 22 ⟨false,1,[.slice none 0 0],.sl 51 1 4 (.int .u32 0)⟩:=⟨⟨.mk (by kernel_rfl) (by kernel_rfl),rfl⟩,.mk (by kernel_rfl),.mk (by kernel_rfl),⟨.mk (by kernel_rfl) (by kernel_rfl),.mk (by kernel_rfl) (by kernel_rfl) rfl (by decide)⟩⟩
theorem KU:eJ Tryz.prog 24 ⟨true,2,[.bool false,.slice none 0 0],.st [(0,4,1),(1,22,1)]⟩:=⟨.mk (by kernel_rfl) (by kernel_rfl),.mk (by kernel_rfl),.mk (by kernel_rfl),⟨⟨.mk (by kernel_rfl),.mk (by kernel_rfl),⟨.mk (by kernel_rfl),.mk (by kernel_rfl),trivial⟩⟩,.mk (by kernel_rfl)⟩⟩
theorem KV:eJ Tryz.prog 25 ⟨false,1,[.slice none 0 0],.sl 48 4 64 (.agg #[.bool false,.slice none 0 0,.bool false,.slice none 0 0])⟩:=⟨⟨.mk (by kernel_rfl) (by kernel_rfl),rfl⟩,.mk (by kernel_rfl),.mk (by kernel_rfl),⟨.mk (by kernel_rfl) (by kernel_rfl),.mk (by kernel_rfl) (by kernel_rfl) rfl (by decide)⟩⟩
theorem KW:eJ Tryz.prog 28 ⟨false,1,[.slice none 0 0],.sl 50 4 64 (.agg #[.bool false,.slice none 0 0,.bool false,.slice none 0 0])⟩:=⟨⟨.mk (by kernel_rfl) (by kernel_rfl),rfl⟩,.mk (by kernel_rfl),.mk (by kernel_rfl),⟨.mk (by kernel_rfl) (by kernel_rfl),.mk (by kernel_rfl) (by kernel_rfl) rfl (by decide)⟩⟩
theorem KX:eJ Tryz.prog 30 ⟨false,1,[.slice none 0 0],.sl 34 2 32 (.agg #[.bool false,.slice none 0 0])⟩:=⟨⟨.mk (by kernel_rfl) (by kernel_rfl),rfl⟩,.mk (by kernel_rfl),.mk (by kernel_rfl),⟨.mk (by kernel_rfl) (by kernel_rfl),.mk (by kernel_rfl) (by kernel_rfl) rfl (by decide)⟩⟩
theorem KY:eJ Tryz.prog 31 ⟨false,1,[.int .i64 0],.it .i64⟩:=⟨⟨.mk (by kernel_rfl) (by kernel_rfl),rfl⟩,.mk (by kernel_rfl),.mk (by kernel_rfl),.mk (by kernel_rfl)⟩
theorem KZ:eJ Tryz.prog 34 ⟨true,2,[.bool false,.slice none 0 0],.st [(0,4,1),(1,22,1)]⟩:=⟨.mk (by kernel_rfl) (by kernel_rfl),.mk (by kernel_rfl),.mk (by kernel_rfl),⟨⟨.mk (by kernel_rfl),.mk (by kernel_rfl),⟨.mk (by kernel_rfl),.mk (by kernel_rfl),trivial⟩⟩,.mk (by kernel_rfl)⟩⟩
theorem LA:eJ Tryz.prog 38 ⟨false,1,[.slice none 0 0],.sl 24 2 32 (.agg #[.bool false,.slice none 0 0])⟩:=⟨⟨.mk (by kernel_rfl) (by kernel_rfl),rfl⟩,.mk (by kernel_rfl),.mk (by kernel_rfl),⟨.mk (by kernel_rfl) (by kernel_rfl),.mk (by kernel_rfl) (by kernel_rfl) rfl (by decide)⟩⟩
theorem LB:eJ Tryz.prog 42 ⟨true,1,[.slice none 0 0],.st [(0,25,1)]⟩:=⟨.mk (by kernel_rfl) (by kernel_rfl),.mk (by kernel_rfl),.mk (by kernel_rfl),⟨⟨.mk (by kernel_rfl),.mk (by kernel_rfl),trivial⟩,.mk (by kernel_rfl)⟩⟩
theorem LC:eJ Tryz.prog 48 ⟨true,4,[.bool false,.slice none 0 0,.bool false,.slice none 0 0],.st [(0,24,2),(2,24,2)]⟩:=⟨.mk (by kernel_rfl) (by kernel_rfl),.mk (by kernel_rfl),.mk (by kernel_rfl),⟨⟨.mk (by kernel_rfl),.mk (by kernel_rfl),⟨.mk (by kernel_rfl),.mk (by kernel_rfl),trivial⟩⟩,.mk (by kernel_rfl)⟩⟩
theorem LD:eJ Tryz.prog 50 ⟨true,4,[.bool false,.slice none 0 0,.bool false,.slice none 0 0],.st [(0,34,2),(2,34,2)]⟩:=⟨.mk (by kernel_rfl) (by kernel_rfl),.mk (by kernel_rfl),.mk (by kernel_rfl),⟨⟨.mk (by kernel_rfl),.mk (by kernel_rfl),⟨.mk (by kernel_rfl),.mk (by kernel_rfl),trivial⟩⟩,.mk (by kernel_rfl)⟩⟩
theorem LE:eJ Tryz.prog 51 ⟨false,1,[.int .u32 0],.it .u32⟩:=⟨⟨.mk (by kernel_rfl) (by kernel_rfl),rfl⟩,.mk (by kernel_rfl),.mk (by kernel_rfl),.mk (by kernel_rfl)⟩
theorem LF:eJ Tryz.prog 76 ⟨false,1,[.slice none 0 0],.sl 2 1 8 (.int .i64 0)⟩:=⟨⟨.mk (by kernel_rfl) (by kernel_rfl),rfl⟩,.mk (by kernel_rfl),.mk (by kernel_rfl),⟨.mk (by kernel_rfl) (by kernel_rfl),.mk (by kernel_rfl) (by kernel_rfl) rfl (by decide)⟩⟩
theorem LG:eJ Tryz.prog 92 ⟨false,1,[.slice none 0 0],.sl 4 1 1 (.bool false)⟩:=⟨⟨.mk (by kernel_rfl) (by kernel_rfl),rfl⟩,.mk (by kernel_rfl),.mk (by kernel_rfl),⟨.mk (by kernel_rfl) (by kernel_rfl),.mk (by kernel_rfl) (by kernel_rfl) rfl (by decide)⟩⟩
theorem IA:eJ Tryz.prog 105 ⟨true,2,[.bool false,.slice none 0 0],.st [(0,24,2)]⟩:=⟨.mk (by kernel_rfl) (by kernel_rfl),.mk (by kernel_rfl),.mk (by kernel_rfl),⟨⟨.mk (by kernel_rfl),.mk (by kernel_rfl),trivial⟩,.mk (by kernel_rfl)⟩⟩
theorem IB:eJ Tryz.prog 109 ⟨false,1,[.int .u64 0],.it .u64⟩:=⟨⟨.mk (by kernel_rfl) (by kernel_rfl),rfl⟩,.mk (by kernel_rfl),.mk (by kernel_rfl),.mk (by kernel_rfl)⟩
theorem IC:eJ Tryz.prog 111 ⟨false,1,[.int .u64 0],.it .u64⟩:=⟨⟨.mk (by kernel_rfl) (by kernel_rfl),rfl⟩,.mk (by kernel_rfl),.mk (by kernel_rfl),.mk (by kernel_rfl)⟩
theorem ID:eJ Tryz.prog 121 ⟨false,1,[.slice none 0 0],.sl 3 1 8 (.int .i64 0)⟩:=⟨⟨.mk (by kernel_rfl) (by kernel_rfl),rfl⟩,.mk (by kernel_rfl),.mk (by kernel_rfl),⟨.mk (by kernel_rfl) (by kernel_rfl),.mk (by kernel_rfl) (by kernel_rfl) rfl (by decide)⟩⟩
theorem IE:eJ Tryz.prog 141 ⟨true,4,[.bool false,.slice none 0 0,.bool false,.slice none 0 0],.st [(0,48,4)]⟩:=⟨.mk (by kernel_rfl) (by kernel_rfl),.mk (by kernel_rfl),.mk (by kernel_rfl),⟨⟨.mk (by kernel_rfl),.mk (by kernel_rfl),trivial⟩,.mk (by kernel_rfl)⟩⟩
theorem IF:eJ Tryz.prog 163 ⟨false,1,[.slice none 0 0],.sl 22 1 24 (.slice none 0 0)⟩:=⟨⟨.mk (by kernel_rfl) (by kernel_rfl),rfl⟩,.mk (by kernel_rfl),.mk (by kernel_rfl),⟨.mk (by kernel_rfl) (by kernel_rfl),.mk (by kernel_rfl) (by kernel_rfl) rfl (by decide)⟩⟩
theorem IG:eJ Tryz.prog 173 ⟨false,1,[.nilIface],.ot⟩:=⟨⟨.mk (by kernel_rfl) (by kernel_rfl),rfl⟩,.mk (by kernel_rfl),.mk (by kernel_rfl),trivial⟩
def ttab:List (Nat×TI):=[(2,⟨false,1,[.int .i64 0],.it .i64⟩),
 (3,⟨false,1,[.int .i64 0],.it .i64⟩),
 (4,⟨false,1,[.bool false],.bl⟩),
 (5,⟨false,1,[.int .u8 0],.it .u8⟩),
 (9,⟨false,1,[.string ⟨#[]⟩],.str⟩),
 (22,⟨false,1,[.slice none 0 0],.sl 51 1 4 (.int .u32 0)⟩),
 (24,⟨true,2,[.bool false,.slice none 0 0],.st [(0,4,1),(1,22,1)]⟩),
 (25,⟨false,1,[.slice none 0 0],.sl 48 4 64 (.agg #[.bool false,.slice none 0 0,.bool false,.slice none 0 0])⟩),
 (28,⟨false,1,[.slice none 0 0],.sl 50 4 64 (.agg #[.bool false,.slice none 0 0,.bool false,.slice none 0 0])⟩),
 (30,⟨false,1,[.slice none 0 0],.sl 34 2 32 (.agg #[.bool false,.slice none 0 0])⟩),
 (31,⟨false,1,[.int .i64 0],.it .i64⟩),
 (34,⟨true,2,[.bool false,.slice none 0 0],.st [(0,4,1),(1,22,1)]⟩),
 (38,⟨false,1,[.slice none 0 0],.sl 24 2 32 (.agg #[.bool false,.slice none 0 0])⟩),
 (42,⟨true,1,[.slice none 0 0],.st [(0,25,1)]⟩),
 (48,⟨true,4,[.bool false,.slice none 0 0,.bool false,.slice none 0 0],.st [(0,24,2),(2,24,2)]⟩),
 (50,⟨true,4,[.bool false,.slice none 0 0,.bool false,.slice none 0 0],.st [(0,34,2),(2,34,2)]⟩),
 (51,⟨false,1,[.int .u32 0],.it .u32⟩),
 (76,⟨false,1,[.slice none 0 0],.sl 2 1 8 (.int .i64 0)⟩),
 (92,⟨false,1,[.slice none 0 0],.sl 4 1 1 (.bool false)⟩),
 (105,⟨true,2,[.bool false,.slice none 0 0],.st [(0,24,2)]⟩),
 (109,⟨false,1,[.int .u64 0],.it .u64⟩),
 (111,⟨false,1,[.int .u64 0],.it .u64⟩),
 (121,⟨false,1,[.slice none 0 0],.sl 3 1 8 (.int .i64 0)⟩),
 (141,⟨true,4,[.bool false,.slice none 0 0,.bool false,.slice none 0 0],.st [(0,48,4)]⟩),
 (163,⟨false,1,[.slice none 0 0],.sl 22 1 24 (.slice none 0 0)⟩),
 (173,⟨false,1,[.nilIface],.ot⟩)]
theorem aA:bV Tryz.prog ttab:=⟨LZ,MA,MB,MC,MD,KT,KU,KV,KW,KX,KY,KZ,LA,LB,LC,LD,LE,LF,LG,IA,IB,IC,ID,IE,IF,IG,trivial⟩
theorem LT:CallOk Tryz.prog 7:=.mk Tryz.func7 (by decide) rfl
theorem We:CallOk Tryz.prog 8:=.mk Tryz.func8 (by decide) rfl
theorem KE:CallOk Tryz.prog 11:=.mk Tryz.func11 (by decide) rfl
theorem oU:CallOk Tryz.prog 13:=.mk Tryz.func13 (by decide) rfl
theorem DE:CallOk Tryz.prog 14:=.mk Tryz.func14 (by decide) rfl
theorem DC:CallOk Tryz.prog 17:=.mk Tryz.func17 (by decide) rfl
theorem DG:CallOk Tryz.prog 19:=.mk Tryz.func19 (by decide) rfl
theorem KD:CallOk Tryz.prog 20:=.mk Tryz.func20 (by decide) rfl
theorem Lq:CallOk Tryz.prog 22:=.mk Tryz.func22 (by decide) rfl
theorem vU:CallOk Tryz.prog 23:=.mk Tryz.func23 (by decide) rfl
theorem Ef:CallOk Tryz.prog 24:=.mk Tryz.func24 (by decide) rfl
theorem sS:CallOk Tryz.prog 25:=.mk Tryz.func25 (by decide) rfl
theorem qU:CallOk Tryz.prog 26:=.mk Tryz.func26 (by decide) rfl
theorem DK:CallOk Tryz.prog 27:=.mk Tryz.func27 (by decide) rfl
theorem Lp:CallOk Tryz.prog 28:=.mk Tryz.func28 (by decide) rfl
theorem KF:CallOk Tryz.prog 29:=.mk Tryz.func29 (by decide) rfl
theorem DJ:CallOk Tryz.prog 30:=.mk Tryz.func30 (by decide) rfl
theorem KG:CallOk Tryz.prog 31:=.mk Tryz.func31 (by decide) rfl
theorem Te:CallOk Tryz.prog 32:=.mk Tryz.func32 (by decide) rfl
theorem sE:CallOk Tryz.prog 33:=.mk Tryz.func33 (by decide) rfl
theorem yS:CallOk Tryz.prog 34:=.mk Tryz.func34 (by decide) rfl
theorem Dy:CallOk Tryz.prog 35:=.mk Tryz.func35 (by decide) rfl
theorem jF:CallOk Tryz.prog 36:=.mk Tryz.func36 (by decide) rfl
theorem Dz:CallOk Tryz.prog 37:=.mk Tryz.func37 (by decide) rfl
theorem KA:CallOk Tryz.prog 39:=.mk Tryz.func39 (by decide) rfl
theorem JR:CallOk Tryz.prog 42:=.mk Tryz.func42 (by decide) rfl
theorem vX:CallOk Tryz.prog 43:=.mk Tryz.func43 (by decide) rfl
theorem nM:CallOk Tryz.prog 44:=.mk Tryz.func44 (by decide) rfl
theorem yN:CallOk Tryz.prog 45:=.mk Tryz.func45 (by decide) rfl
theorem JT:CallOk Tryz.prog 46:=.mk Tryz.func46 (by decide) rfl
theorem JS:CallOk Tryz.prog 47:=.mk Tryz.func47 (by decide) rfl
theorem DA:CallOk Tryz.prog 49:=.mk Tryz.func49 (by decide) rfl
theorem JZ:CallOk Tryz.prog 50:=.mk Tryz.func50 (by decide) rfl
theorem Sp:CallOk Tryz.prog 51:=.mk Tryz.func51 (by decide) rfl
theorem St:CallOk Tryz.prog 52:=.mk Tryz.func52 (by decide) rfl
theorem DB:CallOk Tryz.prog 53:=.mk Tryz.func53 (by decide) rfl
theorem Sm:CallOk Tryz.prog 54:=.mk Tryz.func54 (by decide) rfl
theorem zC:CallOk Tryz.prog 57:=.mk Tryz.func57 (by decide) rfl
theorem LH:CallOk Tryz.prog 60:=.mk Tryz.func60 (by decide) rfl
theorem wA:CallOk Tryz.prog 61:=.mk Tryz.func61 (by decide) rfl
theorem zD:CallOk Tryz.prog 62:=.mk Tryz.func62 (by decide) rfl
theorem Ll:CallOk Tryz.prog 63:=.mk Tryz.func63 (by decide) rfl
theorem mL:CallOk Tryz.prog 64:=.mk Tryz.func64 (by decide) rfl
theorem Ug:CallOk Tryz.prog 65:=.mk Tryz.func65 (by decide) rfl
theorem CW:CallOk Tryz.prog 66:=.mk Tryz.func66 (by decide) rfl
theorem CX:CallOk Tryz.prog 67:=.mk Tryz.func67 (by decide) rfl
theorem Ln:CallOk Tryz.prog 68:=.mk Tryz.func68 (by decide) rfl
theorem DH:CallOk Tryz.prog 69:=.mk Tryz.func69 (by decide) rfl
theorem Tc:CallOk Tryz.prog 70:=.mk Tryz.func70 (by decide) rfl
theorem Lm:CallOk Tryz.prog 71:=.mk Tryz.func71 (by decide) rfl
theorem cP:CallOk Tryz.prog 72:=.mk Tryz.func72 (by decide) rfl
theorem cZ:CallOk Tryz.prog 73:=.mk Tryz.func73 (by decide) rfl
theorem fE:CallOk Tryz.prog 74:=.mk Tryz.func74 (by decide) rfl
theorem KB:CallOk Tryz.prog 75:=.mk Tryz.func75 (by decide) rfl
theorem KC:CallOk Tryz.prog 76:=.mk Tryz.func76 (by decide) rfl
theorem mM:CallOk Tryz.prog 77:=.mk Tryz.func77 (by decide) rfl
theorem CY:CallOk Tryz.prog 79:=.mk Tryz.func79 (by decide) rfl
theorem oT:CallOk Tryz.prog 80:=.mk Tryz.func80 (by decide) rfl
theorem JO:CallOk Tryz.prog 81:=.mk Tryz.func81 (by decide) rfl
theorem La:CallOk Tryz.prog 82:=.mk Tryz.func82 (by decide) rfl
theorem Cy:CallOk Tryz.prog 83:=.mk Tryz.func83 (by decide) rfl
theorem Lb:CallOk Tryz.prog 84:=.mk Tryz.func84 (by decide) rfl
theorem qP:CallOk Tryz.prog 85:=.mk Tryz.func85 (by decide) rfl
theorem Kz:CallOk Tryz.prog 86:=.mk Tryz.func86 (by decide) rfl
theorem CM:CallOk Tryz.prog 87:=.mk Tryz.func87 (by decide) rfl
theorem JY:CallOk Tryz.prog 88:=.mk Tryz.func88 (by decide) rfl
theorem Rx:CallOk Tryz.prog 89:=.mk Tryz.func89 (by decide) rfl
theorem JQ:CallOk Tryz.prog 90:=.mk Tryz.func90 (by decide) rfl
theorem JP:CallOk Tryz.prog 91:=.mk Tryz.func91 (by decide) rfl
theorem EK:CallOk Tryz.prog 92:=.mk Tryz.func92 (by decide) rfl
theorem EL:CallOk Tryz.prog 93:=.mk Tryz.func93 (by decide) rfl
theorem JW:CallOk Tryz.prog 94:=.mk Tryz.func94 (by decide) rfl
theorem JV:CallOk Tryz.prog 95:=.mk Tryz.func95 (by decide) rfl
theorem CC:CallOk Tryz.prog 96:=.mk Tryz.func96 (by decide) rfl
theorem CQ:CallOk Tryz.prog 97:=.mk Tryz.func97 (by decide) rfl
theorem JU:CallOk Tryz.prog 98:=.mk Tryz.func98 (by decide) rfl
theorem Li:CallOk Tryz.prog 99:=.mk Tryz.func99 (by decide) rfl
theorem GM:CallOk Tryz.prog 100:=.mk Tryz.func100 (by decide) rfl
theorem GL:CallOk Tryz.prog 101:=.mk Tryz.func101 (by decide) rfl
theorem HE:CallOk Tryz.prog 102:=.mk Tryz.func102 (by decide) rfl
theorem IH:CallOk Tryz.prog 103:=.mk Tryz.func103 (by decide) rfl
theorem Wl:CallOk Tryz.prog 104:=.mk Tryz.func104 (by decide) rfl
theorem Lk:CallOk Tryz.prog 105:=.mk Tryz.func105 (by decide) rfl
theorem rI:CallOk Tryz.prog 106:=.mk Tryz.func106 (by decide) rfl
theorem mV:CallOk Tryz.prog 107:=.mk Tryz.func107 (by decide) rfl
theorem Wm:CallOk Tryz.prog 108:=.mk Tryz.func108 (by decide) rfl
theorem uU:CallOk Tryz.prog 109:=.mk Tryz.func109 (by decide) rfl
theorem Wn:CallOk Tryz.prog 110:=.mk Tryz.func110 (by decide) rfl
theorem dV:CallOk Tryz.prog 111:=.mk Tryz.func111 (by decide) rfl
theorem II:CallOk Tryz.prog 112:=.mk Tryz.func112 (by decide) rfl
theorem Wo:CallOk Tryz.prog 114:=.mk Tryz.func114 (by decide) rfl
theorem GG:CallOk Tryz.prog 115:=.mk Tryz.func115 (by decide) rfl
theorem GC:CallOk Tryz.prog 116:=.mk Tryz.func116 (by decide) rfl
theorem GD:CallOk Tryz.prog 117:=.mk Tryz.func117 (by decide) rfl
theorem IJ:CallOk Tryz.prog 118:=.mk Tryz.func118 (by decide) rfl
theorem Wp:CallOk Tryz.prog 119:=.mk Tryz.func119 (by decide) rfl
theorem wW:CallOk Tryz.prog 120:=.mk Tryz.func120 (by decide) rfl
theorem GN:CallOk Tryz.prog 121:=.mk Tryz.func121 (by decide) rfl
theorem IK:CallOk Tryz.prog 122:=.mk Tryz.func122 (by decide) rfl
theorem GP:CallOk Tryz.prog 123:=.mk Tryz.func123 (by decide) rfl
theorem Vx:CallOk Tryz.prog 124:=.mk Tryz.func124 (by decide) rfl
theorem Vy:CallOk Tryz.prog 125:=.mk Tryz.func125 (by decide) rfl
theorem HD:CallOk Tryz.prog 126:=.mk Tryz.func126 (by decide) rfl
theorem Mg:CallOk Tryz.prog 127:=.mk Tryz.func127 (by decide) rfl
theorem Wq:CallOk Tryz.prog 128:=.mk Tryz.func128 (by decide) rfl
theorem Ws:CallOk Tryz.prog 129:=.mk Tryz.func129 (by decide) rfl
theorem IL:CallOk Tryz.prog 130:=.mk Tryz.func130 (by decide) rfl
theorem Mh:CallOk Tryz.prog 131:=.mk Tryz.func131 (by decide) rfl
theorem xR:CallOk Tryz.prog 132:=.mk Tryz.func132 (by decide) rfl
theorem IM:CallOk Tryz.prog 133:=.mk Tryz.func133 (by decide) rfl
theorem IN:CallOk Tryz.prog 134:=.mk Tryz.func134 (by decide) rfl
theorem IP:CallOk Tryz.prog 135:=.mk Tryz.func135 (by decide) rfl
theorem IQ:CallOk Tryz.prog 136:=.mk Tryz.func136 (by decide) rfl
theorem GO:CallOk Tryz.prog 137:=.mk Tryz.func137 (by decide) rfl
theorem IR:CallOk Tryz.prog 142:=.mk Tryz.func142 (by decide) rfl
theorem mixed:Tryz.prog.follows .mixedOrders=true:=by kernel_rfl
section
variable {x:Cx}{g:Nat→FV}{ob ob':List (Option Ob)}{Q:Post}{ops:Array Oper}{rest:List Oper}{d:Nat}{op:Op}{ty:TypeId}{pos:String}{af:Array Edge}{gd:Option (Nat×Bool)}{C:Prop}{v:FV}
theorem o1 (k:WL x ops rest (aZ g d v) ob Q) (hT:bV x.P ttab:=by exact aA) (hw:bC ops x.n g gd=some true:=by rfl) (h:rV ttab x.n g op=some (C,v):=by rfl) (hC:C:=by first | trivial | omega | (simp only[fM];omega)):WL x ops (⟨some d,op,ty,pos,af,gd⟩::rest) g ob Q:=LU hT hw h hC k
theorem ld {t:Nat}{i:TI}{a:Operand}(k:WL x ops rest (aZ g d v) ob Q) (hT:bV x.P ttab:=by exact aA) (hw:bC ops x.n g gd=some true:=by rfl) (hi:bQ ttab t=some i:=by rfl) (h:nT ob i (lk x.n g a)=some (C,v):=by rfl):WL x ops (⟨some d,.load t a,ty,pos,af,gd⟩::rest) g ob Q:=Ue hT hw hi h k
theorem fS {t:Nat}{i:TI}{a:Operand}{l:List Tr}{of:Nat}(us:List Tr) (hl:(l.drop of).take us.length=us) (k:WL x ops rest (aZ g d v) ob Q) (hT:bV x.P ttab:=by exact aA) (hw:bC ops x.n g gd=some true:=by rfl) (hi:bQ ttab t=some i:=by rfl) (h:lk x.n g a=.one (.ef l of):=by rfl) (hv:Ei i us=some v:=by rfl):WL x ops (⟨some d,.load t a,ty,pos,af,gd⟩::rest) g ob Q:=HW hT hw hi h hl hv k
theorem al {t:Nat}(key:Nat) (k:WL x ops rest (aZ g d (.one (.pt key 0))) ob' Q) (hT:bV x.P ttab:=by exact aA) (hw:bC ops x.n g gd=some true:=by rfl) (h:zN ttab t key ob=some ob':=by rfl):WL x ops (⟨some d,.alloc t,ty,pos,af,gd⟩::rest) g ob Q:=KO hT hw h k
theorem bx {t:Nat}{a:Operand}(key:Nat) (k:WL x ops rest (aZ g d (.one (.pt key 0))) ob' Q) (hw:bC ops x.n g gd=some true:=by rfl) (h:Lz t key (lk x.n g a) ob=some ob':=by rfl):WL x ops (⟨some d,.box t a,ty,pos,af,gd⟩::rest) g ob Q:=KP hw h k
theorem st {t:Nat}{i:TI}{a b:Operand}(k:WL x ops rest g ob' Q) (hT:bV x.P ttab:=by exact aA) (hw:bC ops x.n g gd=some true:=by rfl) (hi:bQ ttab t=some i:=by rfl) (h:sY i ob (lk x.n g b) (lk x.n g a)=some ob':=by rfl):WL x ops (⟨none,.store t a b,ty,pos,af,gd⟩::rest) g ob Q:=KQ hT hw hi h k
theorem bs {t len:Nat}{ps:Array (Nat×Operand)}(key:Nat) (k:WL x ops rest (aZ g d (.one (.sl key 0 len))) ob' Q) (hT:bV x.P ttab:=by exact aA) (hw:bC ops x.n g gd=some true:=by rfl) (h:zV ttab x.n g t len key ps.toList ob=some ob':=by rfl):WL x ops (⟨some d,.buildSlice t len ps,ty,pos,af,gd⟩::rest) g ob Q:=KR hT hw h k
theorem eL {o:Oper}(k:WL x ops rest (aZ g d (.one (tv undef))) ob Q) (hw:bC ops x.n g o.guard=some false:=by rfl) (hd:o.dst=some d:=by rfl):WL x ops (o::rest) g ob Q:=KN hw hd k
theorem ca {fresh:Bool}{f:FuncId}{args:List FV}{r:FV}{aa:Array Operand}{ats:Array TypeId}(hS:aC fresh x.P f [] args (aM r)) (hf:CallOk x.P f) (ha:AL fresh x g ob aa.toList args) (v:FV) (k:WL x ops rest (aZ g d v) ob Q) (hw:bC ops x.n g gd=some true:=by rfl) (hv:vH r=v:=by rfl):
  WL x ops (⟨some d,.call ⟨.value (.func f),aa,ats⟩,ty,pos,af,gd⟩::rest) g ob Q:=EG hw hS hf ha hv k
variable {late:Nat→Bool}{K fr:List Nat}{on:Bool}{fuel:Nat}{listed:Array Bool}
theorem dv (i:Nat) (k:WD x ops Q late K fr true fuel (listed.setIfInBounds i true) (aZ g d v) ob) (hT:bV x.P ttab:=by exact aA) (hi:ops[i]? =some ⟨some d,op,ty,pos,af,gd⟩:=by rfl) (hst:jH ops late listed i=true:=by kernel_rfl) (hw:bC ops x.n g gd=some true:=by rfl) (h:rV ttab x.n (kS fr g) op=some (C,v):=by rfl) (hC:C:=by first | trivial | omega | (simp only[fM];omega)) (hg:rV ttab x.n g op=some (C,v):=by rfl):WD x ops Q late K fr true (fuel+1) listed g ob:=dt i hT hi hst hw h hC hg k
theorem df (i:Nat) (k:WD x ops Q late K (d::fr) true fuel (listed.setIfInBounds i true) (aZ g d v) ob) (hT:bV x.P ttab:=by exact aA) (hi:ops[i]? =some ⟨some d,op,ty,pos,af,gd⟩:=by rfl) (hst:jH ops late listed i=true:=by kernel_rfl) (hw:bC ops x.n g gd=some true:=by rfl) (h:rV ttab x.n g op=some (C,v):=by rfl) (hC:C:=by first | trivial | omega | (simp only[fM];omega)):WD x ops Q late K fr true (fuel+1) listed g ob:=LV i hT hi hst hw h hC k
theorem aU {t:Nat}{ti:TI}{a:Operand}{key off:Nat}(i:Nat) (k:WD x ops Q late K fr true fuel (listed.setIfInBounds i true) (aZ g d v) ob) (hT:bV x.P ttab:=by exact aA) (hi:ops[i]? =some ⟨some d,.load t a,ty,pos,af,gd⟩:=by rfl) (hst:jH ops late listed i=true:=by kernel_rfl) (hw:bC ops x.n g gd=some true:=by rfl) (hti:bQ ttab t=some ti:=by rfl) (hlk:lk x.n g a=.one (.pt key off):=by rfl) (hK:K.contains key=true:=by rfl) (h:nT ob ti (.one (.pt key off))=some (C,v):=by rfl):WD x ops Q late K fr true (fuel+1) listed g ob:=dl i hT hi hst hw hti hlk hK h k
theorem gE {t:Nat}{ti:TI}{a:Operand}{l:List Tr}{of:Nat}(i:Nat) (us:List Tr) (hl:(l.drop of).take us.length=us) (k:WD x ops Q late K fr true fuel (listed.setIfInBounds i true) (aZ g d v) ob) (hT:bV x.P ttab:=by exact aA) (hi:ops[i]? =some ⟨some d,.load t a,ty,pos,af,gd⟩:=by rfl) (hst:jH ops late listed i=true:=by kernel_rfl) (hw:bC ops x.n g gd=some true:=by rfl) (hti:bQ ttab t=some ti:=by rfl) (hlk:lk x.n (kS fr g) a=.one (.ef l of):=by rfl) (hv:Ei ti us=some v:=by rfl):WD x ops Q late K fr true (fuel+1) listed g ob:=LW i hT hi hst hw hti hlk hl hv k
theorem bB (i:Nat) (k:WD x ops Q late K fr true fuel (listed.setIfInBounds i true) (aZ g d (.one (tv undef))) ob) (hi:ops[i]? =some ⟨some d,op,ty,pos,af,gd⟩:=by rfl) (hst:jH ops late listed i=true:=by kernel_rfl) (hw:bC ops x.n g gd=some false:=by rfl):WD x ops Q late K fr true (fuel+1) listed g ob:=dn i hi hst hw k
theorem aI {fresh:Bool}{f:FuncId}{args:List FV}{r:FV}{aa:Array Operand}{ats:Array TypeId}(i:Nat) (hi:ops[i]? =some ⟨some d,.call ⟨.value (.func f),aa,ats⟩,ty,pos,af,gd⟩) (hS:aC fresh x.P f [] args (aM r)) (hf:CallOk x.P f) (ha:AL fresh x g ob aa.toList args) (v:FV) (k:WD x ops Q late K (d::fr) true fuel (listed.setIfInBounds i true) (aZ g d v) ob) (hr:Region.ready .any ops listed=[i]:=by kernel_rfl) (hw:bC ops x.n g gd=some true:=by rfl) (hv:vH r=v:=by rfl):WD x ops Q late K fr true (fuel+1) listed g ob:=EI i hr hi hw hS hf ha hv k
theorem cQ {fresh:Bool}{f:FuncId}{args:List FV}{r:FV}{aa:Array Operand}{ats:Array TypeId}(i:Nat) (hi:ops[i]? =some ⟨some d,.call ⟨.value (.func f),aa,ats⟩,ty,pos,af,gd⟩) (hS:aC fresh x.P f [] args (aM r)) (hf:CallOk x.P f) (ha:AL fresh x g ob aa.toList args) (v:FV) (k:WD x ops Q late K (d::fr) true fuel (listed.setIfInBounds i true) (aZ g d v) ob) (hw:bC ops x.n g gd=some true:=by rfl) (hv:vH r=v:=by rfl):WO x ops Q late K fr true fuel listed i g ob:=EJ i hi hw hS hf ha hv k
theorem dst {t:Nat}{ti:TI}{a b:Operand}(i:Nat) (k:WD x ops Q late K fr false fuel (listed.setIfInBounds i true) g ob') (hT:bV x.P ttab:=by exact aA) (hr:Region.ready .any ops listed=[i]:=by kernel_rfl) (hi:ops[i]? =some ⟨none,.store t a b,ty,pos,af,gd⟩:=by rfl) (hw:bC ops x.n g gd=some true:=by rfl) (hti:bQ ttab t=some ti:=by rfl) (h:sY ti ob (lk x.n g b) (lk x.n g a)=some ob':=by rfl) (hl:late i=true:=by rfl):WD x ops Q late K fr on (fuel+1) listed g ob:=KS i hr hi hw hT hti h hl k
theorem fG {fresh:Bool}{f:FuncId}{args:List FV}{r:FV}{os:List Ob}{aa:Array Operand}{ats:Array TypeId}(key:Nat) (hS:aC fresh x.P f [] args (aM r)) (hf:CallOk x.P f) (ha:AL fresh x g ob aa.toList args) (k:WL x ops rest (aZ g d v) (ob++os.map some) Q) (hw:bC ops x.n g gd=some true:=by rfl) (hk:dQ ob key=true:=by rfl) (hb:kE key r=some (v,os):=by rfl):
  WL x ops (⟨some d,.call ⟨.value (.func f),aa,ats⟩,ty,pos,af,gd⟩::rest) g ob Q:=Zj hw hS hf ha hk hb k
theorem iF {fresh:Bool}{f:FuncId}{args:List FV}{r:FV}{os:List Ob}{aa:Array Operand}{ats:Array TypeId}(key i:Nat) (hi:ops[i]? =some ⟨some d,.call ⟨.value (.func f),aa,ats⟩,ty,pos,af,gd⟩) (hS:aC fresh x.P f [] args (aM r)) (hf:CallOk x.P f) (ha:AL fresh x g ob aa.toList args) (k:WD x ops Q late K (d::fr) true fuel (listed.setIfInBounds i true) (aZ g d v) (ob++os.map some)) (hr:Region.ready .any ops listed=[i]:=by kernel_rfl) (hw:bC ops x.n g gd=some true:=by rfl) (hk:dQ ob key=true:=by rfl) (hb:kE key r=some (v,os):=by rfl) (hK:EH K ob=true:=by rfl):WD x ops Q late K fr true (fuel+1) listed g ob:=Zk i hr hi hw hS hf ha hk hb hK k
theorem aN (h:Q .normal g ob) (hr:Region.ready .any ops listed=[]:=by kernel_rfl):WD x ops Q late K fr on fuel listed g ob:=dz hr h
end
theorem Po {β:Type}:∀{o:Nat}{l:List AV}{a:AV}{r:List AV}{k:List AV→Option β},l.drop o=a::r→dp o l k=k (a::r)
 | 0,l,a,r,k,h=>by rw[List.drop_zero]at h;subst h;rfl
 | o+1,[],a,r,k,h=>by simp at h
 | o+1,b::l,a,r,k,h=>by
  rw[List.drop_succ_cons]at h
  exact Po (o:=o) h
theorem Fd {ob:List (Option Ob)}{i:TI}{k o t z:Nat}{l:List AV}{a:AV}(ho:bT ob k=some ⟨t,z,l⟩) (hx:l[o]? =some a) (ha:i.agg=false) (hr:mQ a=true):nT ob i (.one (.pt k o))=some (True,.one a):=by
 obtain⟨h1,h2⟩:=List.getElem?_eq_some_iff.1 hx
 have h3:l.drop o=a::l.drop (o+1):=by rw[List.drop_eq_getElem_cons h1,h2]
 unfold nT
 dsimp only
 rw[ho]
 dsimp only
 unfold Ub
 rw[Po h3,ha]
 simp[zL,fU,hr,ev]
section
variable {x:Cx}{g:Nat→FV}{ob ob':List (Option Ob)}{Q:Post}{ops:Array Oper}{rest:List Oper}{d:Nat}{ty:TypeId}{pos:String}{af:Array Edge}{gd:Option (Nat×Bool)}{T:List (Nat×TI)}
theorem IS {t e by_ k m:Nat}{ti:Bool}{ts0:Nat}{z0:List Value}{kk k1 k2:IntKind}{a b:Operand}(hT:bV x.P T) (ht:bQ T t=some ⟨ti,ts0,z0,.sl e 1 by_ (.int kk 0)⟩) (ha:lk x.n g a=.one (tv (.int k1 (m:Int)))) (hb:lk x.n g b=.one (tv (.int k2 (m:Int)))) (hby:by_≤16) (hm:m≤8796093022208) (hk:dQ ob k=true):
  OS x ⟨some d,.makeSlice t a b,ty,pos,af,gd⟩ g ob [] (fun g' ob2=>g'=aZ g d (.one (.sl k 0 m))∧ob2=ob++[some ⟨e,1,(List.replicate m (Value.int kk 0)).map tv⟩]):=by
 obtain⟨_,hel⟩:=(cW hT ht).2.2.2
 obtain⟨hu,i,hi,hz,hsize,hby',hzs,hsz⟩:=hel
 subst hby'
 have hk:=Nat.eq_of_beq_eq_true hk
 subst hk
 intro cs ts W hR K Q' kk'
 have e1:=hR.lk a
 rw[ha]at e1
 have e1:=aQ e1
 have e2:=hR.lk b
 rw[hb]at e2
 have e2:=aQ e2
 have hmul:i.bytes*m≤16*8796093022208:=Nat.mul_le_mul hby hm
 obtain⟨w',hrun,h1,h2⟩:=run_make_full (P:=x.P) W 0 t e i (.int kk 0) 1 hu hi hz hsize k1 k2 m (by omega) (by unfold maxLen;omega) (Nat.zero_le _)
 have hrun':(execOp (Act.eval ⟨ts,[]⟩) ⟨some d,.makeSlice t a b,ty,pos,af,gd⟩).run x.P W=.ok (.value (.slice (some ⟨W.heap.size,0,none⟩) m m)) w':=by
  simp[execOp,e1,e2,hrun]
 have e0:(madeCells (Value.int kk 0).cells (m*1)).toList=List.replicate m (.int kk 0):=by
  rw[Nat.mul_one]
  show(madeCells #[Value.int kk 0] m).toList=_
  rw[toList_madeCells_one]
 rw[e0]at h1
 generalize hus:List.replicate m (Value.int kk 0)=us at h1 kk'
 have hbl:Below W.heap.size W w':=(Below.refl _ _).grown h2 (Nat.le_refl _) (fun k hk=>by cases hk)
 rcases h1.2 with⟨hh,_⟩ | ⟨g1,cap,cur,hv,_,hg,hnc,hcm,hcs,htake⟩
 ·injection hh with h3;cases h3
 injection hv with q1 q2 q3
 injection q1 with q1
 injection q1 with q1
 subst q1 q3
 have hlt:W.heap.size<w'.heap.size:=(Array.getElem?_eq_some_iff.1 hg).1
 have hcur:cur.toList=us:=by
  have h9:cur.toList.length=m*1:=by simpa using hcs
  rw[←htake,List.take_of_length_le (by omega)]
 have hS:∀b∈(aG (some ⟨e,1,us.map tv⟩) ⟨some W.heap.size,m,us.map .w⟩).S,W.heap.size≤b∧b<w'.heap.size:=by
  intro b hb
  simp[aG,kR]at hb
  subst hb
  exact⟨Nat.le_refl _,hlt⟩
 have hown:∀b∈cG (ob++[some ⟨e,1,us.map tv⟩]) (cs++[⟨some W.heap.size,m,us.map .w⟩]),b∈cG ob cs∨W.heap.size≤b:=by
  intro b hb
  unfold cG aD at hb
  rw[List.zipWith_append hR.len,List.flatMap_append,List.mem_append]at hb
  rcases hb with hb | hb
  ·exact .inl hb
  exact .inr (hS b (by simpa using hb)).1
 have m1:RelC x g (ob++[some ⟨e,1,us.map tv⟩]) (cs++[⟨some W.heap.size,m,us.map .w⟩]) ts w':=by
  refine hR.push hbl _ _ ?_ hS (by simp[aG,kR]) ?_ (fun e=>by cases e)
  ·have hul:us.length=m:=by rw[←hus,List.length_replicate]
   simp only[aG,rE]
   refine⟨⟨[],?_,by simp[hul]⟩,rC _,hcm⟩
   rw[List.append_nil,hg,←hcur]
  exact pV (mF _) (xM _)
 refine eH hrun' (kk' _ _ _ _ _ ⟨rfl,rfl⟩ (m1.put d ?_) ((Aft.mk .app (fun k _ hk=>kP hk) hbl.size (fun b hlt _=>hbl.block b hlt) hown (fun _ _=>rfl):Aft [] (some d) ob cs ts W _ _ ts w').then_put _))
 refine gB ?_
 simp only[AR]
 rw[hR.len,fJ]
 exact⟨by simp[hR.len],0,m,rfl,Nat.le_refl _,hcm,fun _=>rfl,fun _=>rfl⟩
inductive FzN (key:Nat):List AV→List AV→Prop
 | nil:FzN key [] []
 | id {a:AV}{l l':List AV}(h:FzN key l l'):FzN key (a::l) (a::l')
 | sl {l l':List AV}(h:FzN key l l'):FzN key (tv (.slice none 0 0)::l) (.sl key 0 0::l')
theorem FzN.ok {key:Nat}{W:World}{N:Nat→Prop}{cs:List Co}(hk:key<cs.length) (hb:(co cs key).b=none):∀{l l':List AV},FzN key l l'→∀{ys:List VT},bH W N cs l ys→bH W N cs l' ys
 | _,_,.nil,ys,h=>h
 | _,_,.id h',[],h=>by simp only[bH]at h
 | _,_,.id h',y::ys,h=>by
  simp only[bH]at h⊢
  exact⟨h.1,FzN.ok hk hb h' h.2⟩
 | _,_,.sl h',[],h=>by simp only[bH]at h
 | _,_,.sl h',y::ys,h=>by
  simp only[bH]at h⊢
  refine⟨?_,FzN.ok hk hb h' h.2⟩
  have h1:=h.1
  simp only[tv,CR,OR]at h1
  subst h1
  simp only[CR,AR,hb]
  exact⟨hk,trivial,trivial,trivial⟩
theorem FzN.nl {key:Nat}:∀{l l':List AV},FzN key l l'→(l=[]↔l'=[])
 | _,_,.nil=>Iff.rfl
 | _,_,.id h'=>by simp
 | _,_,.sl h'=>by simp
theorem Nn {j key e z t' z':Nat}{l l':List AV}(hz:Nat.beq z 0=false) (hk:dQ ob key=true) (ho:bT ob j=some ⟨t',z',l⟩) (hl:FzN key l l'):Sub x g ob g (ob.set j (some ⟨t',z',l'⟩)++[some ⟨e,z,[]⟩]):=by
 rintro ts W ⟨cs,hR⟩
 have hk:=Nat.eq_of_beq_eq_true hk
 have hj:=cI ho
 have hz0:z≠0:=fun e=>by subst e;simp at hz
 have hlt:=(List.getElem?_eq_some_iff.1 hj).1
 have m1:=hR.push (Below.refl _ _) ⟨e,z,[]⟩ ⟨none,0,[]⟩ (by simp[aG]) (by simp[aG]) (by simp[aG]) (by simp[bH]) (fun _=>⟨rfl,hz0⟩)
 have hj':(ob++[some ⟨e,z,[]⟩])[j]? =some (some ⟨t',z',l⟩):=by rw[List.getElem?_append_left hlt];exact hj
 have hb0:(co (cs++[⟨none,0,[]⟩]) key).b=none:=by rw[←hk,hR.len,fJ]
 have hkl:key<(cs++[(⟨none,0,[]⟩:Co)]).length:=by rw[←hk,hR.len];simp
 have hm:=m1.obs.2 j _ hj'
 have hup:=m1.upd hj' ⟨t',z',l'⟩ (co (cs++[⟨none,0,[]⟩]) j) (Chg.refl _ _) rfl rfl (by rw[iK l' l];exact m1.res hj') (fun b hb=>.inl (by rw[iK l l'];exact hb)) (by rw[iK l' l];exact m1.2.nd1 (List.mem_of_getElem? (bF m1.len hj')))
  (fun h1 h2 h3=>by
   have h4:bH W (x.fr W (ob++[some ⟨e,z,[]⟩]) (cs++[⟨none,0,[]⟩])) (cs++[⟨none,0,[]⟩]) l' (co (cs++[⟨none,0,[]⟩]) j).l:=hl.ok hkl hb0 hm.1
   exact cD (fun _ _=>rfl) h2 h3 _ _ h4) (fun hb=>by
   have:=hm.2 hb
   exact⟨hl.nl.1 this.1,this.2⟩)
 have e1:(ob++[some (⟨e,z,[]⟩:Ob)]).set j (some ⟨t',z',l'⟩)=ob.set j (some ⟨t',z',l'⟩)++[some ⟨e,z,[]⟩]:=List.set_append_left _ _ hlt
 rw[e1]at hup
 exact⟨_,hup.1⟩
theorem mk {t e by_ m:Nat}{ti:Bool}{ts0:Nat}{z0:List Value}{kk k1 k2:IntKind}{a b:Operand}(key:Nat) (hm:m≤8796093022208){l:List AV}(hl:(List.replicate m (Value.int kk 0)).map tv=l) (k:WL x ops rest (aZ g d (.one (.sl key 0 m))) (ob++[some ⟨e,1,l⟩]) Q) (hT:bV x.P ttab:=by exact aA) (hw:bC ops x.n g gd=some true:=by rfl)
  (ht:bQ ttab t=some ⟨ti,ts0,z0,.sl e 1 by_ (.int kk 0)⟩:=by rfl) (ha:lk x.n g a=.one (tv (.int k1 (m:Int))):=by rfl) (hb:lk x.n g b=.one (tv (.int k2 (m:Int))):=by rfl) (hby:by_≤16:=by decide) (hk:dQ ob key=true:=by rfl):WL x ops (⟨some d,.makeSlice t a b,ty,pos,af,gd⟩::rest) g ob Q:=by
 subst hl
 exact gJ (IS hT ht ha hb hby hm hk) hw (by rintro _ _ ⟨rfl,rfl⟩;exact k)
theorem Wb {t key o t' z':Nat}{ti:TI}{a:Operand}{l:List AV}{v:AV}(hx:l[o]? =some v) (k:WL x ops rest (aZ g d (.one v)) ob Q) (hT:bV x.P ttab:=by exact aA) (hw:bC ops x.n g gd=some true:=by rfl) (hti:bQ ttab t=some ti:=by rfl) (hlk:lk x.n g a=.one (.pt key o):=by rfl) (ho:bT ob key=some ⟨t',z',l⟩:=by rfl) (ha:ti.agg=false:=by rfl) (hr:mQ v=true:=by rfl):
  WL x ops (⟨some d,.load t a,ty,pos,af,gd⟩::rest) g ob Q:=Ue hT hw hti (by rw[hlk];exact Fd ho hx ha hr) k
theorem wY {t key o t' z':Nat}{ti:TI}{a b:Operand}{l l' us:List AV}(hl:dA l o us=l') (hle:o+us.length≤l.length) (k:WL x ops rest g (ob.set key (some ⟨t',z',l'⟩)) Q) (hT:bV x.P ttab:=by exact aA) (hw:bC ops x.n g gd=some true:=by rfl) (hti:bQ ttab t=some ti:=by rfl) (hlk:lk x.n g a=.one (.pt key o):=by rfl) (ho:bT ob key=some ⟨t',z',l⟩:=by rfl)
  (hb:sX (lk x.n g b)=some us:=by rfl) (hlo:dU us=true:=by rfl) (hsz:Nat.beq us.length ti.size=true:=by rfl):WL x ops (⟨none,.store t a b,ty,pos,af,gd⟩::rest) g ob Q:=
 gJ (xO hT hti hlk hb hlo hsz ho hle hl) hw (by rintro _ _ ⟨rfl,rfl⟩;exact k)
variable {late:Nat→Bool}{K fr:List Nat}{on:Bool}{fuel:Nat}{listed:Array Bool}
theorem Sd {t key o t' z':Nat}{ti:TI}{a:Operand}{l:List AV}{v:AV}(i:Nat) (hx:l[o]? =some v) (k:WD x ops Q late K fr true fuel (listed.setIfInBounds i true) (aZ g d (.one v)) ob) (hT:bV x.P ttab:=by exact aA) (hi:ops[i]? =some ⟨some d,.load t a,ty,pos,af,gd⟩:=by rfl) (hst:jH ops late listed i=true:=by kernel_rfl) (hw:bC ops x.n g gd=some true:=by rfl) (hti:bQ ttab t=some ti:=by rfl)
  (hlk:lk x.n g a=.one (.pt key o):=by rfl) (hK:K.contains key=true:=by rfl) (ho:bT ob key=some ⟨t',z',l⟩:=by rfl) (ha:ti.agg=false:=by rfl) (hr:mQ v=true:=by rfl):WD x ops Q late K fr true (fuel+1) listed g ob:=dl i hT hi hst hw hti hlk hK (Fd ho hx ha hr) k
theorem Lh {t key o t' z':Nat}{ti:TI}{a b:Operand}{l l' us:List AV}(i:Nat) (hl:dA l o us=l') (hle:o+us.length≤l.length) (k:WD x ops Q late K fr false fuel (listed.setIfInBounds i true) g (ob.set key (some ⟨t',z',l'⟩))) (hT:bV x.P ttab:=by exact aA) (hr:Region.ready .any ops listed=[i]:=by kernel_rfl) (hi:ops[i]? =some ⟨none,.store t a b,ty,pos,af,gd⟩:=by rfl) (hw:bC ops x.n g gd=some true:=by rfl) (hti:bQ ttab t=some ti:=by rfl)
  (hlk:lk x.n g a=.one (.pt key o):=by rfl) (ho:bT ob key=some ⟨t',z',l⟩:=by rfl) (hb:sX (lk x.n g b)=some us:=by rfl) (hlo:dU us=true:=by rfl) (hsz:Nat.beq us.length ti.size=true:=by rfl) (hlate:late i=true:=by rfl):WD x ops Q late K fr on (fuel+1) listed g ob:=by
 refine Em i hr hi hw (xO (ty:=ty) (pos:=pos) (af:=af) (gd:=gd) hT hti hlk hb hlo hsz ho hle hl) false (fun h=>by cases h) (fun h=>by rw[hlate]at h;cases h) (fun h=>by cases h) fun g' ob' hR=>?_
 obtain⟨rfl,rfl⟩:=hR
 exact k
end
theorem Loc.cut {M:List Nat}{w W:World}{L L':List Res}{F:List Sh}(h:Loc M w W L F) (hc:∀b,(L'.flatMap Res.S).count b≤(L.flatMap Res.S).count b) (hφ:∀r∈L',r.φ W):Loc M w W L' F:=by
 have hin:∀b,b∈L'.flatMap Res.S→b∈L.flatMap Res.S:=fun b hb=>List.count_pos_iff.1 (Nat.lt_of_lt_of_le (List.count_pos_iff.2 hb) (hc b))
 exact⟨h.chg,hφ,fun b hb=>h.blk b (hin b hb),List.nodup_iff_count.2 fun b=>Nat.le_trans (hc b) (List.nodup_iff_count.1 h.nd b),fun q hq=>q.mono _ _ _ (fun b hb=>⟨hb.1,fun hm=>hb.2 (hin b hm)⟩) (h.shr q hq)⟩
theorem zX {y y':VT}(b:Nat):∀{l:List VT}{p:Nat},l[p]? =some y→(VT.fpL (l.set p y')).count b+y.fp.count b=(VT.fpL l).count b+y'.fp.count b
 | [],_,h=>by simp at h
 | z::l,0,h=>by
  simp at h
  subst h
  simp only[List.set_cons_zero,VT.fpL,List.count_append]
  omega
 | z::l,p+1,h=>by
  have:=zX (y':=y') b (l:=l) (p:=p) (by simpa using h)
  simp only[List.set_cons_succ,VT.fpL,List.count_append]
  omega
theorem zY {W:World}{y':VT}(hy:y'.ok W):∀{l:List VT}{p:Nat},VT.okL W l→VT.okL W (l.set p y')
 | [],_,h=>by simpa using h
 | z::l,0,h=>by
  simp only[VT.okL]at h
  simp only[List.set_cons_zero,VT.okL]
  exact⟨hy,h.2⟩
 | z::l,p+1,h=>by
  simp only[VT.okL]at h
  simp only[List.set_cons_succ,VT.okL]
  exact⟨h.1,zY hy h.2⟩
theorem Jj {y y':VT}(hv:y'.val=y.val){l:List VT}{p:Nat}(h:l[p]? =some y):(l.set p y').map VT.val=l.map VT.val:=by
 rw[List.map_set,hv]
 apply List.ext_getElem?
 intro j
 rw[List.getElem?_set]
 split
 ·rename_i e
  subst e
  obtain⟨h1,h2⟩:=List.getElem?_eq_some_iff.1 h
  simp[h1,h2]
 rfl
theorem zZ {W:World}{N:Nat→Prop}{cs:List Co}{a:AV}{y:VT}(ha:CR W N cs a y):∀{l:List AV}{ys:List VT}{p:Nat},bH W N cs l ys→bH W N cs (l.set p a) (ys.set p y)
 | [],ys,p,h=>by
  simp only[bH]at h
  subst h
  simp[bH]
 | b::l,[],p,h=>by simp only[bH]at h
 | b::l,z::ys,0,h=>by
  simp only[bH]at h
  simp only[List.set_cons_zero,bH]
  exact⟨ha,h.2⟩
 | b::l,z::ys,p+1,h=>by
  simp only[bH]at h
  simp only[List.set_cons_succ,bH]
  exact⟨h.1,zZ ha h.2⟩
section
variable {x:Cx}{g g':Nat→FV}{ob ob':List (Option Ob)}{cs cs':List Co}{ts ts':Array Value}{W W':World}{T:List (Nat×TI)}{Q:Post}{ops:Array Oper}{rest:List Oper}
theorem Same.set {k:Nat}{c:Co}(hk:k<cs.length) (hb:c.b=(co cs k).b) (hc:c.c=(co cs k).c):Same cs (cs.set k c):=⟨by simp,fun j hj=>by
 rw[jP hk]
 split
 ·rename_i e
  subst e
  exact⟨hb,hc⟩
 exact⟨rfl,rfl⟩⟩
theorem LI {j key p t' z':Nat}{l l':List AV}{q:Tr}{a':AV}{o:Ob}(hk:dQ ob key=true) (hb9:tH key (.t q)=some (a',[o])) (hcr:∀{W:World}{N:Nat→Prop}{cs:List Co}{u:Value},AR W N cs a' u→CR W N cs a' (.w u)) (ho:bT ob j=some ⟨t',z',l⟩) (hp:l[p]? =some (.t q)) (hl:l.set p a'=l'):Sub x g ob g (ob.set j (some ⟨t',z',l'⟩)++[some o]):=by
 subst hl
 rintro ts W ⟨cs,hR⟩
 have hk:=Nat.eq_of_beq_eq_true hk
 have hj:=cI ho
 have hcl:=hR.crl hj
 obtain⟨y,hy,hr⟩:=uR hcl hp
 have hlt:=(List.getElem?_eq_some_iff.1 hj).1
 have hlen:=hR.len
 have hjl:j<cs.length:=by omega
 cases hbj:(co cs j).b with
 | none=>
  have:=((hR.obs.2 j _ hj).2 hbj).1
  dsimp only at this
  subst this
  simp at hp
 | some bj=>
  obtain⟨⟨rs,k1,k1l⟩,k2,k3⟩:=hR.blk hj hbj
  have hyok:=zT k2 hy
  rcases uS (k:=key) (a:=.t q) (a':=a') (os:=[o]) (N:=x.fr W ob cs) (by simpa only[CR]using hr) hyok hb9 with⟨h0,_⟩ | ⟨o1,h0,hS,hφ,hA,hnone⟩
  ·cases h0
  injection h0 with h0
  subst h0
  have hval:(VT.w y.val).val=y.val:=rfl
  have hsame1:=Same.set (c:=⟨(co cs j).b,(co cs j).c,(co cs j).l.set p (.w y.val)⟩) hjl rfl rfl
  have hsame:Same cs (cs.set j ⟨(co cs j).b,(co cs j).c,(co cs j).l.set p (.w y.val)⟩++[gM y]):=hsame1.trans .app
  have hcok:co (cs.set j ⟨(co cs j).b,(co cs j).c,(co cs j).l.set p (.w y.val)⟩++[gM y]) key=gM y:=by
   have:=fJ (cs:=cs.set j ⟨(co cs j).b,(co cs j).c,(co cs j).l.set p (.w y.val)⟩) (c:=gM y)
   rwa[List.length_set,←hlen,hk]at this
  have hcoj:co (cs.set j ⟨(co cs j).b,(co cs j).c,(co cs j).l.set p (.w y.val)⟩++[gM y]) j=⟨(co cs j).b,(co cs j).c,(co cs j).l.set p (.w y.val)⟩:=by
   rw[kP (by simpa using hjl),jP hjl,if_pos rfl]
  have hrs:aD (ob.set j (some ⟨t',z',l.set p a'⟩)++[some o]) (cs.set j ⟨(co cs j).b,(co cs j).c,(co cs j).l.set p (.w y.val)⟩++[gM y])=(aD ob cs).set j (aG (some ⟨t',z',l.set p a'⟩) ⟨(co cs j).b,(co cs j).c,(co cs j).l.set p (.w y.val)⟩)++[aG (some o) (gM y)]:=by
   rw[←hH]
   unfold aD
   rw[List.zipWith_append (by simpa using hlen)]
   rfl
  have m:=hR.recut (ob':=ob.set j (some ⟨t',z',l.set p a'⟩)++[some o]) (cs':=cs.set j ⟨(co cs j).b,(co cs j).c,(co cs j).l.set p (.w y.val)⟩++[gM y]) (fun b=>by
   have h1:=nA (r':=aG (some ⟨t',z',l.set p a'⟩) ⟨(co cs j).b,(co cs j).c,(co cs j).l.set p (.w y.val)⟩) (bF hlen hj) b
   have h2:=zX (y':=.w y.val) b hy
   have h3:(aG (some ⟨t',z',l⟩) (co cs j)).S=bj::VT.fpL (co cs j).l:=by simp[aG,hbj]
   have h4:(aG (some ⟨t',z',l.set p a'⟩) ⟨(co cs j).b,(co cs j).c,(co cs j).l.set p (.w y.val)⟩).S=bj::VT.fpL ((co cs j).l.set p (.w y.val)):=by simp[aG,hbj]
   have h5:(VT.w y.val).fp=[]:=rfl
   rw[h3,h4,List.count_cons,List.count_cons]at h1
   rw[h5,List.count_nil]at h2
   unfold cG
   rw[hrs,List.flatMap_append,List.count_append,List.flatMap_cons,List.flatMap_nil,List.append_nil,hS]
   omega) (fun r hr'=>by
   rw[hrs]at hr'
   rcases List.mem_append.1 hr' with hr' | hr'
   ·rcases List.mem_or_eq_of_mem_set hr' with hr' | rfl
    ·exact hR.2.res r hr'
    simp only[aG,hbj]
    rw[Jj hval hy]
    exact⟨⟨rs,k1,by rw[k1l];simp⟩,zY (by simp[VT.ok]) k2,k3⟩
   ·simp at hr'
    subst hr'
    exact hφ) (fun hN=>by
   refine⟨by simp[hlen],fun i o9 hi=>?_⟩
   obtain⟨q1,q2⟩:=hA _ _ hN (by simp;omega) hcok
   rcases Nat.lt_or_ge i ob.length with hil | hil
   ·rw[List.getElem?_append_left (by simpa using hil)]at hi
    by_cases hij:j=i
    ·subst hij
     rw[List.getElem?_set_self hlt]at hi
     injection hi with hi
     injection hi with hi
     subst hi
     rw[hcoj]
     refine⟨zZ (hcr q1) (cD (fun _ _=>rfl) hN hsame _ _ hcl),fun h=>?_⟩
     rw[hbj]at h
     cases h
    rw[List.getElem?_set_ne hij]at hi
    have h1:=hR.obs.2 i o9 hi
    rw[kP (by simp;omega),jP hjl,if_neg (fun h=>hij h.symm)]
    exact⟨cD (fun _ _=>rfl) hN hsame _ _ h1.1,h1.2⟩
   have e1:i=key:=by
    have:=(List.getElem?_eq_some_iff.1 hi).1
    simp at this
    omega
   subst e1
   rw[List.getElem?_append_right (by simp;omega)]at hi
   simp[hk]at hi
   subst hi
   rw[hcok]
   exact⟨q2,hnone⟩) hsame
  exact⟨_,m.1⟩
theorem ME {j key p e z n t' z':Nat}{l l':List AV}{trs:List Tr}(hk:dQ ob key=true) (hz:Nat.beq z 0=false) (ho:bT ob j=some ⟨t',z',l⟩) (hp:l[p]? =some (.t (.s true e z n trs))) (hl:l.set p (.sl key 0 n)=l'):Sub x g ob g (ob.set j (some ⟨t',z',l'⟩)++[some ⟨e,z,trs.map .t⟩]):=
 LI hk (by simp[tH,hz]) (fun h=>by simpa only[CR]using h) ho hp hl
theorem LJ {j k p t' z':Nat}{l l':List AV}{a0:AV}{o:Ob}{q:Tr}(hne:Nat.beq j k=false) (ho:bT ob j=some ⟨t',z',l⟩) (hok:bT ob k=some o) (hp:l[p]? =some a0) (hcr:∀{W:World}{N:Nat→Prop}{cs:List Co}{y:VT},CR W N cs a0 y→∃u,y=.w u∧AR W N cs a0 u) (H:∀{cs:List Co}{ts:Array Value}{W:World}{u:Value},RelC x g ob cs ts W→AR W (x.fr W ob cs) cs a0 u→∃y':VT,y'.val=u∧OR W (x.fr W ob cs) q y'∧y'.ok W∧∀b,y'.fp.count b≤(aG (some o) (co cs k)).S.count b) (hl:l.set p (.t q)=l'):Sub x g ob g ((ob.set j (some ⟨t',z',l'⟩)).set k none):=by
 subst hl
 rintro ts W ⟨cs,hR⟩
 have hjk:j≠k:=fun h=>by subst h;simp at hne
 have hj:=cI ho
 have hkk:=cI hok
 have hcl:=hR.crl hj
 obtain⟨y,hy,hr⟩:=uR hcl hp
 have hlt:=(List.getElem?_eq_some_iff.1 hj).1
 have hkt:=(List.getElem?_eq_some_iff.1 hkk).1
 have hlen:=hR.len
 have hjl:j<cs.length:=by omega
 have hkl:k<cs.length:=by omega
 obtain⟨u,hy9,hr9⟩:=hcr hr
 subst hy9
 obtain⟨y',hv,hor,hyok,hfp⟩:=H hR hr9
 cases hbj:(co cs j).b with
 | none=>
  have:=((hR.obs.2 j _ hj).2 hbj).1
  dsimp only at this
  subst this
  simp at hp
 | some bj=>
  obtain⟨⟨rs,k1,k1l⟩,k2,k3⟩:=hR.blk hj hbj
  have hsame:=Same.set (c:=⟨(co cs j).b,(co cs j).c,(co cs j).l.set p y'⟩) hjl rfl rfl
  have hcoj:co (cs.set j ⟨(co cs j).b,(co cs j).c,(co cs j).l.set p y'⟩) j=⟨(co cs j).b,(co cs j).c,(co cs j).l.set p y'⟩:=by rw[jP hjl,if_pos rfl]
  have hcok:co (cs.set j ⟨(co cs j).b,(co cs j).c,(co cs j).l.set p y'⟩) k=co cs k:=by rw[jP hjl,if_neg (fun h=>hjk h.symm)]
  have hkl2:k<(cs.set j ⟨(co cs j).b,(co cs j).c,(co cs j).l.set p y'⟩).length:=by simpa using hkl
  have hrs:aD ((ob.set j (some ⟨t',z',l.set p (.t q)⟩)).set k none) (cs.set j ⟨(co cs j).b,(co cs j).c,(co cs j).l.set p y'⟩)=((aD ob cs).set j (aG (some ⟨t',z',l.set p (.t q)⟩) ⟨(co cs j).b,(co cs j).c,(co cs j).l.set p y'⟩)).set k (aG none (co cs k)):=by
   rw[←hH,←hH]
   congr 1
   rw[←hcok]
   exact(nB hkl2).symm
  have hk2:((aD ob cs).set j (aG (some ⟨t',z',l.set p (.t q)⟩) ⟨(co cs j).b,(co cs j).c,(co cs j).l.set p y'⟩))[k]? =some (aG (some o) (co cs k)):=by
   rw[List.getElem?_set_ne hjk]
   exact bF hlen hkk
  have m:=hR.recut (ob':=(ob.set j (some ⟨t',z',l.set p (.t q)⟩)).set k none) (cs':=cs.set j ⟨(co cs j).b,(co cs j).c,(co cs j).l.set p y'⟩) (fun b=>by
   have h1:=nA (r':=aG (some ⟨t',z',l.set p (.t q)⟩) ⟨(co cs j).b,(co cs j).c,(co cs j).l.set p y'⟩) (bF hlen hj) b
   have h6:=nA (r':=aG none (co cs k)) hk2 b
   have h2:=zX (y':=y') b hy
   have h3:(aG (some ⟨t',z',l⟩) (co cs j)).S=bj::VT.fpL (co cs j).l:=by simp[aG,hbj]
   have h4:(aG (some ⟨t',z',l.set p (.t q)⟩) ⟨(co cs j).b,(co cs j).c,(co cs j).l.set p y'⟩).S=bj::VT.fpL ((co cs j).l.set p y'):=by simp[aG,hbj]
   have h5:(VT.w u).fp=[]:=rfl
   have h7:(aG none (co cs k)).S=[]:=by cases hb:(co cs k).b <;> simp[aG]
   have h8:=hfp b
   rw[h3,h4,List.count_cons,List.count_cons]at h1
   rw[h5,List.count_nil]at h2
   rw[h7,List.count_nil]at h6
   unfold cG
   rw[hrs]
   omega) (fun r hr'=>by
   rw[hrs]at hr'
   rcases List.mem_or_eq_of_mem_set hr' with hr' | rfl
   ·rcases List.mem_or_eq_of_mem_set hr' with hr' | rfl
    ·exact hR.2.res r hr'
    simp only[aG,hbj]
    rw[Jj (hv.trans rfl) hy]
    exact⟨⟨rs,k1,by rw[k1l];simp⟩,zY hyok k2,k3⟩
   ·cases hb:(co cs k).b <;> simp[aG]) (fun hN=>by
   refine⟨by simp[hlen],fun i o9 hi=>?_⟩
   rw[List.getElem?_set]at hi
   split at hi
   ·split at hi
    ·simp at hi
    cases hi
   by_cases hij:j=i
   ·subst hij
    rw[List.getElem?_set_self hlt]at hi
    injection hi with hi
    injection hi with hi
    subst hi
    rw[hcoj]
    refine⟨zZ (by simpa only[CR]using iC (fun _ _=>rfl) hN _ _ hor) (cD (fun _ _=>rfl) hN hsame _ _ hcl),fun h=>?_⟩
    rw[hbj]at h
    cases h
   rw[List.getElem?_set_ne hij]at hi
   have h1:=hR.obs.2 i o9 hi
   rw[jP hjl,if_neg (fun h=>hij h.symm)]
   exact⟨cD (fun _ _=>rfl) hN hsame _ _ h1.1,h1.2⟩) hsame
  exact⟨_,m.1⟩
theorem JK {j k p e z n t' z':Nat}{l l' l2:List AV}{trs:List Tr}(hne:Nat.beq j k=false) (hz:Nat.beq z 0=false) (ho:bT ob j=some ⟨t',z',l⟩) (hok:bT ob k=some ⟨e,z,l2⟩) (hp:l[p]? =some (.sl k 0 n)) (hl2:l2.take (n*z)=trs.map .t) (hn:trs.length=n*z) (hl:l.set p (.t (.s true e z n trs))=l'):Sub x g ob g ((ob.set j (some ⟨t',z',l'⟩)).set k none):=by
 have hz0:z≠0:=fun e=>by subst e;simp at hz
 have hkk:=cI hok
 refine LJ hne ho hok hp (fun{W N cs y} h=>by cases y <;> simp only[CR]at h;exact⟨_,rfl,h⟩) (fun{cs ts W u} hR hr=>?_) hl
 have hck:=hR.crl hkk
 simp only[AR]at hr
 obtain⟨_,hr⟩:=hr
 have hort:ORL W (x.fr W ob cs) trs ((co cs k).l.take (n*z)):=by
  have:=hG (n*z) hck
  dsimp only at this
  rw[hl2]at this
  exact uQ this
 cases hb:(co cs k).b with
 | none=>
  rw[hb]at hr
  obtain⟨rfl,_,rfl⟩:=hr
  refine⟨.w (.slice none 0 0),rfl,?_,by simp[VT.ok],fun b=>by simp[VT.fp]⟩
  simp only[OR]
  exact .inl ⟨trivial,trivial,List.eq_nil_of_length_eq_zero (by simpa using hn),trivial⟩
 | some b=>
  rw[hb]at hr
  obtain⟨o',c,rfl,h1,h2,h3,h4⟩:=hr
  obtain rfl:=h3 (.inr trivial)
  have hc:=h4 trivial
  subst hc
  obtain⟨⟨rs,k1,k1l⟩,k2,k3⟩:=hR.blk hkk hb
  dsimp only at k1l
  rw[hz,cond_false]at k1l
  refine⟨.s b (co cs k).c e z n ((co cs k).l.take (n*z)),rfl,?_,?_,fun b'=>?_⟩
  ·simp only[OR]
   exact⟨trivial,trivial,trivial,trivial,hort⟩
  ·simp only[VT.ok]
   refine⟨⟨((co cs k).l.drop (n*z)).map VT.val++rs,?_,?_⟩,h1,k3,by rw[tY hort,hn],rD _ _ k2⟩
   ·rw[←List.append_assoc,kT]
    exact k1
   rw[←List.append_assoc,kT,k1l]
  simp only[VT.fp,aG,hb]
  exact((wH (co cs k).l (n*z)).cons_cons b).count_le b'
end
end Go.Proofs.YthmgbcdidlkpoaaGreat
