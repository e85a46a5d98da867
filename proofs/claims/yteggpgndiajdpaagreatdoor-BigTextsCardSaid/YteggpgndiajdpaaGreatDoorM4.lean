/- Part 4 of a proof: Av18 to Av23. -/
import Derived.Test.YteggpgndiajdpaaGreatDoorM3
import Derived.Test.YteggpgndiajdpaaGreatDoorChecked
set_option maxRecDepth 100000
set_option linter.unusedVariables false
set_option linter.unusedSimpArgs false
namespace Go.Proofs.YteggpgndiajdpaaGreatDoor
open Go Go.RowKit
section
variable {x:Cx}{g g':Nat→FV}{ob ob':List (Option Ob)}{cs cs':List Co}{ts ts':Array Value}{W W':World}{T:List (Nat×TI)}{Q:Post}{ops:Array Oper}{d:Nat}{op:Op}{ty:TypeId}{pos:String}{af:Array Edge}{gd:Option (Nat×Bool)}{late:Nat→Bool}{K fr:List Nat}{on:Bool}{fuel:Nat}{listed:Array Bool}
theorem nX {v:FV}:∀j,some d≠some j→aG g d v j=g j:=fun j hj=>by
 have hb:Nat.beq j d=false:=by
  cases hq:Nat.beq j d
  ·rfl
  exact absurd (by rw[Nat.eq_of_beq_eq_true hq]) hj
 simp[aG,hb]
theorem WD.split {t:Nat}{p:Prop} [Decidable p] (h:lk x.n g (.tmp t)=.one (tv (.bool (decide p)))) (ht:g t=.one (tv (.bool (decide p)))) (h1:p→WD x ops Q late K fr on fuel listed (aG g t (.one (tv (.bool true)))) ob) (h2:¬p→WD x ops Q late K fr on fuel listed (aG g t (.one (tv (.bool false)))) ob):WD x ops Q late K fr on fuel listed g ob:=by
 have key:∀b:Bool,decide p=b→aG g t (.one (tv (.bool b)))=g:=fun b hb=>by
  funext i
  unfold aG
  cases hq:Nat.beq i t
  ·rfl
  rw[Nat.eq_of_beq_eq_true hq,ht,hb]
  rfl
 by_cases hp:p
 ·rw[←key true (by simp[hp])]
  exact h1 hp
 rw[←key false (by simp[hp])]
 exact h2 hp
theorem WL.split {t:Nat}{rest:List Oper}{p:Prop} [Decidable p] (ht:g t=.one (tv (.bool (decide p)))) (h1:p→WL x ops rest (aG g t (.one (tv (.bool true)))) ob Q) (h2:¬p→WL x ops rest (aG g t (.one (tv (.bool false)))) ob Q):WL x ops rest g ob Q:=by
 have key:∀b:Bool,decide p=b→aG g t (.one (tv (.bool b)))=g:=fun b hb=>by
  funext i
  unfold aG
  cases hq:Nat.beq i t
  ·rfl
  rw[Nat.eq_of_beq_eq_true hq,ht,hb]
  rfl
 by_cases hp:p
 ·rw[←key true (by simp[hp])]
  exact h1 hp
 rw[←key false (by simp[hp])]
 exact h2 hp
def Ni (K:List Nat) (ob:List (Option Ob)):Bool:=K.all fun k=>Nat.blt k ob.length
theorem Jn {o:Option Ob}{l:List (Option Ob)}(h:Ni K ob=true) (k:Nat) (hk:k∈K):(ob++l)[k]? =ob[k]? :=by
 have:=List.all_eq_true.1 h k hk
 have hlt:k<ob.length:=by simpa[Nat.blt,Nat.lt_iff_add_one_le]using this
 exact List.getElem?_append_left hlt
def kM (ob ob':List (Option Ob)):List Nat→Prop
 | []=>True
 | k::K=>ob'[k]? =ob[k]? ∧kM ob ob' K
theorem fD:∀{K:List Nat},kM ob ob' K→∀k∈K,ob'[k]? =ob[k]?
 | [],_,k,hk=>by simp at hk
 | k0::K,h,k,hk=>by
  rcases List.mem_cons.1 hk with rfl | hk
  ·exact h.1
  exact fD h.2 k hk
theorem Af {o:Oper}{R:(Nat→FV)→List (Option Ob)→Prop}{v:FV}(i:Nat) (hr:Region.ready .any ops listed=[i]) (hi:ops[i]? =some o) (hd:o.dst=some d) (hw:aH ops x.n g o.guard=some true) (h:OS x o g ob [] R)
  (hg:∀g' ob',R g' ob'→g'=aG g d v∧∀k∈K,ob'[k]? =ob[k]?) (k:∀g' ob',R g' ob'→WD x ops Q late K (d::fr) true fuel (listed.setIfInBounds i true) g' ob'):WD x ops Q late K fr true (fuel+1) listed g ob:=by
 refine uY i hr hi hw h true (fun _=>⟨rfl,fun _ _ h=>by simp at h⟩) (fun _=>rfl) (fun _ g' ob' hR=>?_) fun g' ob' hR=>by rw[hd];exact k g' ob' hR
 obtain⟨h1,h2⟩:=hg g' ob' hR
 exact⟨by rw[hd,h1];exact nX,h2⟩
theorem Nj {fresh:Bool}{f:FuncId}{args:List FV}{r v:FV}{aa:Array Operand}{ats:Array TypeId}(i:Nat) (hr:Region.ready .any ops listed=[i]) (hi:ops[i]? =some ⟨some d,.call ⟨.value (.func f),aa,ats⟩,ty,pos,af,gd⟩) (hw:aH ops x.n g gd=some true) (hS:aE fresh x.P f [] args (bC r)) (hf:CallOk x.P f) (ha:AL fresh x g ob aa.toList args) (hv:pE r=v)
  (k:WD x ops Q late K (d::fr) true fuel (listed.setIfInBounds i true) (aG g d v) ob):WD x ops Q late K fr true (fuel+1) listed g ob:=
 Af (v:=v) i hr hi rfl hw (sD hS hf ha) (by rintro _ _ ⟨r',rfl,rfl,rfl⟩;exact⟨by rw[hv],fun _ _=>rfl⟩) (by rintro _ _ ⟨r',rfl,rfl,rfl⟩;rw[hv];exact k)
theorem jA {t key:Nat}(i:Nat) (hr:Region.ready .any ops listed=[i]) (hi:ops[i]? =some ⟨some d,.alloc t,ty,pos,af,gd⟩) (hw:aH ops x.n g gd=some true) (hT:aZ x.P T) (h:rX T t key ob=some ob') (hke:kM ob ob' K)
  (k:WD x ops Q late K (d::fr) true fuel (listed.setIfInBounds i true) (aG g d (.one (.pt key 0))) ob'):WD x ops Q late K fr true (fuel+1) listed g ob:=
 Af (v:=.one (.pt key 0)) i hr hi rfl hw (zW hT h) (by rintro _ _ ⟨rfl,rfl⟩;exact⟨rfl,fD hke⟩) (by rintro _ _ ⟨rfl,rfl⟩;exact k)
theorem vL {o:Oper}{R:(Nat→FV)→List (Option Ob)→Prop}{v:FV}(i:Nat) (hi:ops[i]? =some o) (hd:o.dst=some d) (hw:aH ops x.n g o.guard=some true) (h:OS x o g ob [] R)
  (hg:∀g' ob',R g' ob'→g'=aG g d v∧∀k∈K,ob'[k]? =ob[k]?) (k:∀g' ob',R g' ob'→WD x ops Q late K (d::fr) true fuel (listed.setIfInBounds i true) g' ob'):WO x ops Q late K fr true fuel listed i g ob:=by
 refine Nf i hi hw h true (fun _=>⟨rfl,fun _ _ h=>by simp at h⟩) (fun _=>rfl) (fun _ g' ob' hR=>?_) fun g' ob' hR=>by rw[hd];exact k g' ob' hR
 obtain⟨h1,h2⟩:=hg g' ob' hR
 exact⟨by rw[hd,h1];exact nX,h2⟩
theorem Nk {fresh:Bool}{f:FuncId}{args:List FV}{r v:FV}{aa:Array Operand}{ats:Array TypeId}(i:Nat) (hi:ops[i]? =some ⟨some d,.call ⟨.value (.func f),aa,ats⟩,ty,pos,af,gd⟩) (hw:aH ops x.n g gd=some true) (hS:aE fresh x.P f [] args (bC r)) (hf:CallOk x.P f) (ha:AL fresh x g ob aa.toList args) (hv:pE r=v)
  (k:WD x ops Q late K (d::fr) true fuel (listed.setIfInBounds i true) (aG g d v) ob):WO x ops Q late K fr true fuel listed i g ob:=
 vL (v:=v) i hi rfl hw (sD hS hf ha) (by rintro _ _ ⟨r',rfl,rfl,rfl⟩;exact⟨by rw[hv],fun _ _=>rfl⟩) (by rintro _ _ ⟨r',rfl,rfl,rfl⟩;rw[hv];exact k)
theorem dS {t key:Nat}(i:Nat) (hi:ops[i]? =some ⟨some d,.alloc t,ty,pos,af,gd⟩) (hw:aH ops x.n g gd=some true) (hT:aZ x.P T) (h:rX T t key ob=some ob') (hke:kM ob ob' K)
  (k:WD x ops Q late K (d::fr) true fuel (listed.setIfInBounds i true) (aG g d (.one (.pt key 0))) ob'):WO x ops Q late K fr true fuel listed i g ob:=
 vL (v:=.one (.pt key 0)) i hi rfl hw (zW hT h) (by rintro _ _ ⟨rfl,rfl⟩;exact⟨rfl,fD hke⟩) (by rintro _ _ ⟨rfl,rfl⟩;exact k)
theorem Ag {t len key:Nat}{ps:Array (Nat×Operand)}(i:Nat) (hr:Region.ready .any ops listed=[i]) (hi:ops[i]? =some ⟨some d,.buildSlice t len ps,ty,pos,af,gd⟩) (hw:aH ops x.n g gd=some true) (hT:aZ x.P T) (h:sE T x.n g t len key ps.toList ob=some ob') (hke:kM ob ob' K)
  (k:WD x ops Q late K (d::fr) true fuel (listed.setIfInBounds i true) (aG g d (.one (.sl key 0 len))) ob'):WD x ops Q late K fr true (fuel+1) listed g ob:=
 Af (v:=.one (.sl key 0 len)) i hr hi rfl hw (Ac hT h) (by rintro _ _ ⟨rfl,rfl⟩;exact⟨rfl,fD hke⟩) (by rintro _ _ ⟨rfl,rfl⟩;exact k)
theorem nY {C:Prop}{v:FV}(i:Nat) (hr:Region.ready .any ops listed=[i]) (hi:ops[i]? =some ⟨some d,op,ty,pos,af,gd⟩) (hw:aH ops x.n g gd=some true) (hT:aZ x.P T) (h:mW T x.n g op=some (C,v)) (hC:C)
  (k:WD x ops Q late K (d::fr) on fuel (listed.setIfInBounds i true) (aG g d v) ob) (hl:late i=false→on=true):WD x ops Q late K fr on (fuel+1) listed g ob:=by
 refine uY i hr hi hw (Na hT h hC) on (fun h=>⟨h,fun _ _ h=>by simp at h⟩) hl (fun _ g' ob' hR=>?_) fun g' ob' hR=>?_
 ·obtain⟨rfl,rfl⟩:=hR
  exact⟨nX,fun _ _=>rfl⟩
 obtain⟨rfl,rfl⟩:=hR
 exact k
theorem Tv {t:Nat}{ti:TI}{a b:Operand}(i:Nat) (hr:Region.ready .any ops listed=[i]) (hi:ops[i]? =some ⟨none,.store t a b,ty,pos,af,gd⟩) (hw:aH ops x.n g gd=some true) (hT:aZ x.P T) (hti:aJ T t=some ti) (h:pR ti ob (lk x.n g b) (lk x.n g a)=some ob') (hl:late i=true)
  (k:WD x ops Q late K fr false fuel (listed.setIfInBounds i true) g ob'):WD x ops Q late K fr on (fuel+1) listed g ob:=by
 obtain⟨ky,hs,_⟩:=zY (ty:=ty) (pos:=pos) (af:=af) (gd:=gd) hT hti h
 refine uY i hr hi hw hs false (fun h=>by cases h) (fun h=>by rw[hl]at h;cases h) (fun h=>by cases h) fun g' ob' hR=>?_
 obtain⟨rfl,rfl⟩:=hR
 exact k
theorem cO {t key o:Nat}{ti:TI}{a b:Operand}(i:Nat) (hr:Region.ready .any ops listed=[i]) (hi:ops[i]? =some ⟨none,.store t a b,ty,pos,af,gd⟩) (hw:aH ops x.n g gd=some true) (hT:aZ x.P T) (hti:aJ T t=some ti) (h:pR ti ob (lk x.n g b) (lk x.n g a)=some ob') (hlk:lk x.n g a=.one (.pt key o)) (hK:K.contains key=false) (hke:kM ob ob' K)
  (k:WD x ops Q late K fr true fuel (listed.setIfInBounds i true) g ob'):WD x ops Q late K fr true (fuel+1) listed g ob:=by
 obtain⟨ky,hs,o2,hlk2⟩:=zY (ty:=ty) (pos:=pos) (af:=af) (gd:=gd) hT hti h
 rw[hlk]at hlk2
 injection hlk2 with e
 injection e with e1 e2
 subst e1
 refine uY i hr hi hw hs true (fun _=>⟨rfl,fun k hk hm=>?_⟩) (fun _=>rfl) (fun _ g' ob' hR=>?_) fun g' ob' hR=>?_
 ·rw[List.mem_singleton]at hm
  subst hm
  have:K.contains k=true:=by simpa using hk
  rw[hK]at this
  cases this
 ·obtain⟨rfl,rfl⟩:=hR
  exact⟨fun _ _=>rfl,fD hke⟩
 obtain⟨rfl,rfl⟩:=hR
 exact k
theorem WL.splitb {t:Nat}{rest:List Oper}{b:Bool}(ht:g t=.one (tv (.bool b))) (h1:b=true→WL x ops rest (aG g t (.one (tv (.bool true)))) ob Q) (h2:b=false→WL x ops rest (aG g t (.one (tv (.bool false)))) ob Q):WL x ops rest g ob Q:=by
 have key:∀b':Bool,b=b'→aG g t (.one (tv (.bool b')))=g:=fun b' hb=>by
  funext i
  unfold aG
  cases hq:Nat.beq i t
  ·rfl
  rw[Nat.eq_of_beq_eq_true hq,ht,hb]
  rfl
 cases hb:b
 ·rw[←key false hb]
  exact h2 hb
 rw[←key true hb]
 exact h1 hb
theorem WD.splitb {t:Nat}{b:Bool}(ht:g t=.one (tv (.bool b))) (h1:b=true→WD x ops Q late K fr on fuel listed (aG g t (.one (tv (.bool true)))) ob) (h2:b=false→WD x ops Q late K fr on fuel listed (aG g t (.one (tv (.bool false)))) ob):WD x ops Q late K fr on fuel listed g ob:=by
 have key:∀b':Bool,b=b'→aG g t (.one (tv (.bool b')))=g:=fun b' hb=>by
  funext i
  unfold aG
  cases hq:Nat.beq i t
  ·rfl
  rw[Nat.eq_of_beq_eq_true hq,ht,hb]
  rfl
 cases hb:b
 ·rw[←key false hb]
  exact h2 hb
 rw[←key true hb]
 exact h1 hb
theorem WL.cast {t:Nat}{rest:List Oper}{u u':Value}(ht:g t=.one (tv u)) (e:u=u') (k:WL x ops rest (aG g t (.one (tv u'))) ob Q):WL x ops rest g ob Q:=by
 have:aG g t (.one (tv u'))=g:=by
  funext i
  unfold aG
  cases hq:Nat.beq i t
  ·rfl
  rw[Nat.eq_of_beq_eq_true hq,ht,e]
  rfl
 rwa[this]at k
theorem WD.cast {t:Nat}{u u':Value}(ht:g t=.one (tv u)) (e:u=u') (k:WD x ops Q late K fr on fuel listed (aG g t (.one (tv u'))) ob):WD x ops Q late K fr on fuel listed g ob:=by
 have:aG g t (.one (tv u'))=g:=by
  funext i
  unfold aG
  cases hq:Nat.beq i t
  ·rfl
  rw[Nat.eq_of_beq_eq_true hq,ht,e]
  rfl
 rwa[this]at k
theorem aI {k:IntKind}{a b:Int}(h:a=b):Value.int k a=.int k b:=by rw[h]
theorem Sub.trans {g2:Nat→FV}{ob2:List (Option Ob)}(h:Sub x g ob g' ob') (h':Sub x g' ob' g2 ob2):Sub x g ob g2 ob2:=fun ts W hR=>h' ts W (h ts W hR)
theorem Sub.refl:Sub x g ob g ob:=fun _ _ h=>h
theorem nr {i:Nat}(key e z:Nat) (hz:Nat.beq z 0=false) (hk:dB ob key=true) (hi:Nat.blt i x.n=true) (hg:g i=.one (tv (.slice none 0 0))):Sub x g ob (aG g i (.one (.sl key 0 0))) (ob++[some ⟨e,z,[]⟩]):=by
 rintro ts W ⟨cs,hR⟩
 have hk:=Nat.eq_of_beq_eq_true hk
 have hi:i<x.n:=by simpa[Nat.blt,Nat.lt_iff_add_one_le]using hi
 have hz0:z≠0:=fun e=>by subst e;simp at hz
 have m1:=hR.push (Below.refl _ _) ⟨e,z,[]⟩ ⟨none,0,[]⟩ (by simp[aC]) (by simp[aC]) (by simp[aC]) (by simp[aN]) (fun _=>⟨rfl,hz0⟩)
 obtain⟨u,h1,h2⟩:=hR.fv hi
 rw[hg]at h2
 have h2:=aD h2
 subst h2
 have m2:=m1.put i (v:=.one (.sl key 0 0)) (u:=.slice none 0 0) (by
  refine dP ?_
  simp only[AR]
  rw[←hk,hR.len,eH]
  exact⟨by simp,by trivial,by trivial,by trivial⟩)
 have e:ts.setIfInBounds i (.slice none 0 0)=ts:=by
  apply Array.ext_getElem?
  intro j
  rw[Array.getElem?_setIfInBounds]
  split
  ·rename_i e
   subst e
   split
   ·exact h1.symm
   rename_i h9
   rw[hR.1]at h9
   exact absurd hi h9
  rfl
 rw[e]at m2
 exact⟨_,m2⟩
theorem Ra {t e z by_ n m j:Nat}{zz:Value}{ti:Bool}{ts0:Nat}{z0:List Value}{a b:Operand}{av bv:AV}{l news:List AV}(i:Nat) (hi:ops[i]? =some ⟨some d,.call ⟨.builtin .append, #[a,b], #[t,t]⟩,ty,pos,af,gd⟩) (hT:aZ x.P T) (ht:aJ T t=some ⟨ti,ts0,z0,.sl e z by_ zz⟩) (ha:lk x.n g a=.one av) (hb:lk x.n g b=.one bv)
  (hd:DstA ob e z av n ob' l) (hs:SrcA ob z bv m news) (hrd:eO news=true) (hlo:cN news=true) (hbytes:(n+m)*by_≤140737488355328) (h63:n+m≤140737488355328) (hK:K=[]) (hj:dB ob j=true) (hr:Region.ready .any ops listed=[i]) (hw:aH ops x.n g gd=some true)
  (k:WD x ops Q late K (d::fr) true fuel (listed.setIfInBounds i true) (aG g d (.one (.sl j 0 (n+m)))) (ob'++[some ⟨e,z,l++news⟩])):WD x ops Q late K fr true (fuel+1) listed g ob:=by
 subst hK
 obtain⟨Wr,h,_⟩:=Ck (d:=d) (ty:=ty) (pos:=pos) (af:=af) (gd:=gd) hT ht ha hb hd hs hrd hlo hj hbytes h63
 refine uY i hr hi hw h true (fun _=>⟨rfl,fun _ h=>by simp at h⟩) (fun _=>rfl) (fun _ g' ob' hR=>?_) fun g' ob' hR=>?_
 ·obtain⟨rfl,rfl⟩:=hR
  exact⟨nX,fun _ h=>by simp at h⟩
 obtain⟨rfl,rfl⟩:=hR
 exact k
end
def sF (k:Nat):AV→Option (AV×List Ob)
 | .t (.s true t z n l)=>match Nat.beq z 0 with
  | false=>some (.sl k 0 n,[⟨t,z,l.map .t⟩])
  | true=>none
 | .t (.p true t l)=>some (.pt k 0,[⟨t,0,l.map .t⟩])
 | .t (.s false t z n l)=>some (.t (.s false t z n l),[])
 | .t (.p false t l)=>some (.t (.p false t l),[])
 | .t (.v v)=>some (.t (.v v),[])
 | .t (.f g l0 l)=>some (.t (.f g l0 l),[])
 | _=>none
def jB (k:Nat):List AV→Option (List AV×List Ob)
 | []=>some ([],[])
 | a::l=>match sF k a with
  | some (a',[])=>match jB k l with
   | some (l',os)=>some (a'::l',os)
   | none=>none
  | some (a',o::_)=>match jB (k+1) l with
   | some (l',os)=>some (a'::l',o::os)
   | none=>none
  | none=>none
def iE:VT→Co
 | .w _=>⟨none,0,[]⟩
 | .s b c _ _ _ l=>⟨some b,c,l⟩
 | .p b _ l=>⟨some b,0,l⟩
section
variable {W:World}{N:Nat→Prop}
theorem sG {k:Nat}{a a':AV}{os:List Ob}{y:VT}(hc:CR W N [] a y) (hok:y.ok W) (h:sF k a=some (a',os)):
  (os=[]∧y.fp=[]∧∀(N':Nat→Prop) (cs:List Co),(∀b,N b→N' b)→AR W N' cs a' y.val)∨
  (∃o,os=[o]∧(aC (some o) (iE y)).S=y.fp∧(aC (some o) (iE y)).φ W∧(∀(N':Nat→Prop) (cs:List Co),(∀b,N b→N' b)→k<cs.length→co cs k=iE y→AR W N' cs a' y.val∧aN W N' cs o.l (iE y).l)∧((iE y).b=none→o.l=[]∧o.z≠0)):=by
 unfold sF at h
 split at h
 ·rename_i t z n l
  split at h
  ·rename_i hz
   injection h with h
   injection h with h1 h2
   subst h1 h2
   refine .inr ⟨_,rfl,?_⟩
   have hz0:z≠0:=fun e=>by subst e;simp at hz
   simp only[CR]at hc
   cases y with
   | w u=>
    simp only[OR]at hc
    rcases hc with⟨_,rfl,rfl,rfl⟩ | ⟨hc,_⟩
    ·refine⟨rfl,by simp[aC,iE],fun N' cs hN hk hco=>⟨?_,by simp[aN,iE]⟩,fun _=>⟨rfl,hz0⟩⟩
     simp only[AR,hco,iE,VT.val]
     exact⟨hk,by trivial,by trivial,by trivial⟩
    cases hc
   | s b c t' z' n' l'=>
    simp only[OR]at hc
    obtain⟨_,rfl,rfl,rfl,hl⟩:=hc
    simp only[VT.ok]at hok
    obtain⟨k1,k2,k3,k4,k5⟩:=hok
    refine⟨rfl,?_,fun N' cs hN hk hco=>⟨?_,sC (ORL_keep (fun _ _=>rfl) hN _ _ hl)⟩,fun h=>by cases h⟩
    ·simp only[aC,iE]
     rw[hz,cond_false]
     exact⟨k1,k5,k3⟩
    simp only[AR,hco,iE,VT.val]
    exact⟨hk,0,c,rfl,k2,by unfold maxLen at k3;omega,fun _=>rfl,fun _=>rfl⟩
   | p b t' l'=>simp only[OR]at hc
  cases h
 ·rename_i t l
  injection h with h
  injection h with h1 h2
  subst h1 h2
  refine .inr ⟨_,rfl,?_⟩
  simp only[CR]at hc
  cases y with
  | w u=>
   simp only[OR]at hc
   cases hc.1
  | s b c t' z' n' l'=>simp only[OR]at hc
  | p b t' l'=>
   simp only[OR]at hc
   obtain⟨_,rfl,hl⟩:=hc
   simp only[VT.ok]at hok
   refine⟨rfl,?_,fun N' cs hN hk hco=>⟨?_,sC (ORL_keep (fun _ _=>rfl) hN _ _ hl)⟩,fun h=>by cases h⟩
   ·simp only[aC,iE]
    exact⟨hok.1,hok.2,Nat.zero_le _⟩
   simp only[AR,hco,iE,VT.val]
   exact⟨b,rfl,rfl⟩
 ·injection h with h
  injection h with h1 h2
  subst h1 h2
  have hr:=qL hc rfl
  refine .inl ⟨rfl,?_,fun N' cs hN=>dW (fun _ _=>rfl) hN ⟨Nat.zero_le _,fun k hk=>by simp at hk⟩ _ _ hr⟩
  simp only[CR]at hc
  cases y with
  | w u=>rfl
  | s=>simp only[OR]at hc;cases hc.1
  | p=>simp only[OR]at hc
 ·injection h with h
  injection h with h1 h2
  subst h1 h2
  have hr:=qL hc rfl
  refine .inl ⟨rfl,?_,fun N' cs hN=>dW (fun _ _=>rfl) hN ⟨Nat.zero_le _,fun k hk=>by simp at hk⟩ _ _ hr⟩
  simp only[CR]at hc
  cases y with
  | w u=>rfl
  | s=>simp only[OR]at hc
  | p=>simp only[OR]at hc;cases hc.1
 ·injection h with h
  injection h with h1 h2
  subst h1 h2
  have hr:=qL hc rfl
  refine .inl ⟨rfl,?_,fun N' cs hN=>dW (fun _ _=>rfl) hN ⟨Nat.zero_le _,fun k hk=>by simp at hk⟩ _ _ hr⟩
  simp only[CR,OR]at hc
  subst hc
  rfl
 ·injection h with h
  injection h with h1 h2
  subst h1 h2
  have hr:=qL hc rfl
  refine .inl ⟨rfl,?_,fun N' cs hN=>dW (fun _ _=>rfl) hN ⟨Nat.zero_le _,fun k hk=>by simp at hk⟩ _ _ hr⟩
  simp only[CR]at hc
  cases y with
  | w u=>rfl
  | s=>simp only[OR]at hc
  | p=>simp only[OR]at hc
 cases h
theorem oV:∀{l l':List AV}{k:Nat}{os:List Ob}{ys:List VT},aN W N [] l ys→VT.okL W ys→jB k l=some (l',os)→∃cs2:List Co,cs2.length=os.length∧(aA (os.map some) cs2).flatMap Res.S=VT.fpL ys∧(∀r∈aA (os.map some) cs2,r.φ W)∧
  ∀(N':Nat→Prop) (cs:List Co),(∀b,N b→N' b)→k+os.length≤cs.length→(∀i,i<os.length→co cs (k+i)=co cs2 i)→ARL W N' cs l' (ys.map VT.val)∧∀(i:Nat) (o:Ob),os[i]? =some o→aN W N' cs o.l (co cs2 i).l∧((co cs2 i).b=none→o.l=[]∧o.z≠0)
 | [],l',k,os,ys,hc,hok,h=>by
  simp only[aN]at hc
  subst hc
  simp[jB]at h
  obtain⟨rfl,rfl⟩:=h
  exact⟨[],rfl,rfl,by simp[aA],fun N' cs hN hk hco=>⟨by simp[ARL],fun i o ho=>by simp at ho⟩⟩
 | a::l,l',k,os,[],hc,hok,h=>by simp only[aN]at hc
 | a::l,l',k,os,y::ys,hc,hok,h=>by
  simp only[aN]at hc
  simp only[VT.okL]at hok
  unfold jB at h
  split at h
  ·rename_i a' ha
   split at h
   ·rename_i l2 os2 hl
    injection h with h
    injection h with h1 h2
    subst h1 h2
    obtain⟨cs2,e1,e2,e3,e4⟩:=oV hc.2 hok.2 hl
    rcases sG hc.1 hok.1 ha with⟨_,f1,f2⟩ | ⟨o,f1,_⟩
    ·refine⟨cs2,e1,by rw[e2];simp[VT.fpL,f1],e3,fun N' cs hN hk hco=>?_⟩
     obtain⟨g1,g2⟩:=e4 N' cs hN hk hco
     simp only[List.map_cons,ARL]
     exact⟨⟨f2 N' cs hN,g1⟩,g2⟩
    cases f1
   cases h
  ·rename_i a' o os0 ha
   split at h
   ·rename_i l2 os2 hl
    injection h with h
    injection h with h1 h2
    subst h1 h2
    obtain⟨cs2,e1,e2,e3,e4⟩:=oV hc.2 hok.2 hl
    rcases sG hc.1 hok.1 ha with⟨f1,_⟩ | ⟨o',f1,f2,f3,f4,f5⟩
    ·cases f1
    injection f1 with f1 _
    subst f1
    refine⟨iE y::cs2,by simp[e1],?_,?_,fun N' cs hN hk hco=>?_⟩
    ·unfold aA at e2⊢
     simp only[List.map_cons,List.zipWith_cons_cons,List.flatMap_cons,VT.fpL,f2,e2]
    ·unfold aA at e3⊢
     simp only[List.map_cons,List.zipWith_cons_cons]
     intro r hr
     rcases List.mem_cons.1 hr with rfl | hr
     ·exact f3
     exact e3 r hr
    simp only[List.length_cons]at hk hco
    have h0:=hco 0 (by omega)
    obtain⟨g1,g2⟩:=f4 N' cs hN (by omega) h0
    obtain⟨g3,g4⟩:=e4 N' cs hN (by omega) (fun i hi=>by
     have:=hco (i+1) (by omega)
     rw[show k+(i+1)=k+1+i by omega]at this
     rw[this]
     simp[co])
    simp only[List.map_cons,ARL]
    refine⟨⟨g1,g3⟩,fun i o ho=>?_⟩
    cases i with
    | zero=>
     simp at ho
     subst ho
     exact⟨g2,f5⟩
    | succ i=>
     have:=g4 i o (by simpa using ho)
     simpa[co]using this
   cases h
  cases h
end
def nZ (k:Nat):FV→Option (FV×List Ob)
 | .one a=>match sF k a with
  | some (a',os)=>some (.one a',os)
  | none=>none
 | .agg l=>match jB k l with
  | some (l',os)=>some (.agg l',os)
  | none=>none
 | _=>none
def pY (k:Nat):List FV→Option (List FV×List Ob)
 | []=>some ([],[])
 | a::l=>match nZ k a with
  | some (a',os)=>match pY (k+os.length) l with
   | some (l',os')=>some (a'::l',os++os')
   | none=>none
  | none=>none
def iV (k:Nat):FV→Option (FV×List Ob)
 | .tup l=>match pY k l with
  | some (l',os)=>some (.tup l',os)
  | none=>none
 | v=>nZ k v
section
variable {W:World}{N:Nat→Prop}
def Bnd (W:World) (N:Nat→Prop) (k:Nat) (os:List Ob) (ys:List VT) (A:(Nat→Prop)→List Co→Prop):Prop:=∃cs2:List Co,cs2.length=os.length∧(aA (os.map some) cs2).flatMap Res.S=VT.fpL ys∧(∀r∈aA (os.map some) cs2,r.φ W)∧
  ∀(N':Nat→Prop) (cs:List Co),(∀b,N b→N' b)→k+os.length≤cs.length→(∀i,i<os.length→co cs (k+i)=co cs2 i)→A N' cs∧∀(i:Nat) (o:Ob),os[i]? =some o→aN W N' cs o.l (co cs2 i).l∧((co cs2 i).b=none→o.l=[]∧o.z≠0)
theorem sH {k:Nat}{r v:FV}{os:List Ob}{u:Value}{ys:List VT}(hr:mX W N [] r u ys) (hok:VT.okL W ys) (h:nZ k r=some (v,os)):Bnd W N k os ys (fun N' cs=>aX W N' cs v u):=by
 cases r with
 | any=>exact hr.elim
 | tup l=>exact hr.elim
 | one a=>
  obtain⟨z,rfl,rfl,hc⟩:=hr
  unfold nZ at h
  dsimp only at h
  split at h
  ·rename_i a' os' ha
   injection h with h
   injection h with h1 h2
   subst h1 h2
   have hl:jB k [a]=some ([a'],os')∨∃o r,os'=o::r:=by
    cases os' with
    | nil=>left;simp[jB,ha]
    | cons o r=>exact .inr ⟨o,r,rfl⟩
   have hl2:jB k [a]=some ([a'],os'):=by
    rcases hl with hl | ⟨o,r,rfl⟩
    ·exact hl
    have hr':r=[]:=by
     rcases sG hc (by simpa[VT.okL]using hok) ha with⟨f1,_⟩ | ⟨o',f1,_⟩
     ·cases f1
     injection f1
    subst hr'
    simp[jB,ha]
   obtain⟨cs2,e1,e2,e3,e4⟩:=oV (l:=[a]) (ys:=[z]) (by simp only[aN];exact⟨hc,trivial⟩) hok hl2
   refine⟨cs2,e1,e2,e3,fun N' cs hN hk hco=>?_⟩
   obtain⟨g1,g2⟩:=e4 N' cs hN hk hco
   simp only[List.map_cons,ARL]at g1
   exact⟨g1.1,g2⟩
  cases h
 | agg l=>
  obtain⟨rfl,hc⟩:=hr
  unfold nZ at h
  dsimp only at h
  split at h
  ·rename_i l' os' hl
   injection h with h
   injection h with h1 h2
   subst h1 h2
   obtain⟨cs2,e1,e2,e3,e4⟩:=oV hc hok hl
   refine⟨cs2,e1,e2,e3,fun N' cs hN hk hco=>?_⟩
   obtain⟨g1,g2⟩:=e4 N' cs hN hk hco
   exact⟨⟨_,rfl,g1⟩,g2⟩
  cases h
theorem Bnd.app {k:Nat}{os os':List Ob}{ys ys':List VT}{A B:(Nat→Prop)→List Co→Prop}(h:Bnd W N k os ys A) (h':Bnd W N (k+os.length) os' ys' B):Bnd W N k (os++os') (ys++ys') (fun N cs=>A N cs∧B N cs):=by
 obtain⟨c1,a1,a2,a3,a4⟩:=h
 obtain⟨c2,b1,b2,b3,b4⟩:=h'
 have hr:aA ((os++os').map some) (c1++c2)=aA (os.map some) c1++aA (os'.map some) c2:=by
  unfold aA
  rw[List.map_append,List.zipWith_append (by simp[a1])]
 have hc1:∀i,i<os.length→co (c1++c2) i=co c1 i:=fun i hi=>by simp[co,List.getElem?_append_left (show i<c1.length by omega)]
 have hc2:∀i,co (c1++c2) (os.length+i)=co c2 i:=fun i=>by
  unfold co
  rw[List.getElem?_append_right (by omega),show os.length+i-c1.length=i by omega]
 refine⟨c1++c2,by simp[a1,b1],by rw[hr,List.flatMap_append,a2,b2,fI],fun r hm=>?_,fun N' cs hN hk hco=>?_⟩
 ·rw[hr]at hm
  rcases List.mem_append.1 hm with hm | hm
  ·exact a3 r hm
  exact b3 r hm
 simp only[List.length_append]at hk hco
 obtain⟨g1,g2⟩:=a4 N' cs hN (by omega) (fun i hi=>by rw[hco i (by omega),hc1 i hi])
 obtain⟨g3,g4⟩:=b4 N' cs hN (by omega) (fun i hi=>by
  have:=hco (os.length+i) (by omega)
  rw[hc2,show k+(os.length+i)=k+os.length+i by omega]at this
  exact this)
 refine⟨⟨g1,g3⟩,fun i o ho=>?_⟩
 rcases Nat.lt_or_ge i os.length with hi | hi
 ·rw[List.getElem?_append_left hi]at ho
  rw[hc1 i hi]
  exact g2 i o ho
 rw[List.getElem?_append_right hi]at ho
 have:=g4 (i-os.length) o ho
 rw[←hc2,show os.length+(i-os.length)=i by omega]at this
 exact this
theorem yH:∀{l l':List FV}{k:Nat}{os:List Ob}{us:List Value}{ys:List VT},nQ W N [] l us ys→VT.okL W ys→pY k l=some (l',os)→Bnd W N k os ys (fun N' cs=>bP W N' cs l' us)
 | [],l',k,os,us,ys,hr,hok,h=>by
  simp[pY]at h
  obtain⟨rfl,rfl⟩:=h
  obtain⟨rfl,rfl⟩:=hr
  exact⟨[],rfl,rfl,by simp[aA],fun N' cs hN hk hco=>⟨by simp[bP],fun i o ho=>by simp at ho⟩⟩
 | a::l,l',k,os,us,ys,⟨v,vs,y1,y2,h1,h2,h3,h4⟩,hok,h=>by
  subst h1 h2
  rw[iC]at hok
  unfold pY at h
  split at h
  ·rename_i a' os1 ha
   split at h
   ·rename_i l2 os2 hl
    injection h with h
    injection h with e1 e2
    subst e1 e2
    have q1:=sH h3 hok.1 ha
    have q2:=yH h4 hok.2 hl
    obtain⟨cs2,e1,e2,e3,e4⟩:=q1.app q2
    exact⟨cs2,e1,e2,e3,fun N' cs hN hk hco=>by
     obtain⟨g1,g2⟩:=e4 N' cs hN hk hco
     exact⟨by simp only[bP];exact g1,g2⟩⟩
   cases h
  cases h
theorem vM {k:Nat}{r v:FV}{os:List Ob}{u:Value}{ys:List VT}(hr:RO W N [] r u ys) (hok:VT.okL W ys) (h:iV k r=some (v,os)):Bnd W N k os ys (fun N' cs=>aK W N' cs v u):=by
 cases r with
 | tup l=>
  obtain⟨us,rfl,h2⟩:=hr
  unfold iV at h
  dsimp only at h
  split at h
  ·rename_i l' os' hl
   injection h with h
   injection h with h1 h2
   subst h1 h2
   obtain⟨cs2,e1,e2,e3,e4⟩:=yH h2 hok hl
   exact⟨cs2,e1,e2,e3,fun N' cs hN hk hco=>⟨⟨us,rfl,(e4 N' cs hN hk hco).1⟩,(e4 N' cs hN hk hco).2⟩⟩
  cases h
 | any=>exact hr.elim
 | one a=>
  obtain⟨cs2,e1,e2,e3,e4⟩:=sH (r:=.one a) hr hok h
  exact⟨cs2,e1,e2,e3,fun N' cs hN hk hco=>⟨fH (e4 N' cs hN hk hco).1,(e4 N' cs hN hk hco).2⟩⟩
 | agg l=>
  obtain⟨cs2,e1,e2,e3,e4⟩:=sH (r:=.agg l) hr hok h
  exact⟨cs2,e1,e2,e3,fun N' cs hN hk hco=>⟨fH (e4 N' cs hN hk hco).1,(e4 N' cs hN hk hco).2⟩⟩
end
section
variable {x:Cx}{g g':Nat→FV}{ob ob':List (Option Ob)}{cs cs':List Co}{ts ts':Array Value}{W W':World}{T:List (Nat×TI)}{Q:Post}{ops:Array Oper}{rest:List Oper}{d:Nat}{ty:TypeId}{pos:String}{af:Array Edge}{gd:Option (Nat×Bool)}
theorem vN {fresh:Bool}{f:FuncId}{args:List FV}{R:List Lt→FV→Prop}{aa:Array Operand}{ats:Array TypeId}{key:Nat}(hS:aE fresh x.P f [] args R) (hf:CallOk x.P f) (ha:AL fresh x g ob aa.toList args) (hk:dB ob key=true) (hb:∀r,R [] r→(iV key r).isSome=true):
  OS x ⟨some d,.call ⟨.value (.func f),aa,ats⟩,ty,pos,af,gd⟩ g ob [] (fun g' ob'=>∃r v os,R [] r∧iV key r=some (v,os)∧g'=aG g d v∧ob'=ob++os.map some):=by
 intro cs ts W hR K Q kk
 have hC:=tK hS ha hR
 obtain⟨fn,c,h1,h2,h3⟩:=hf
 have hrun:(execOp (Act.eval ⟨ts,[]⟩) ⟨some d,.call ⟨.value (.func f),aa,ats⟩,ty,pos,af,gd⟩).run x.P W=.ok (.enter f (aa.toList.map (Act.eval ⟨ts,[]⟩)).toArray) W:=by
  have e0:Act.eval ⟨ts,[]⟩ (.func f)=.func (.func f) #[] #[]:=rfl
  have e1:aa.map (Act.eval ⟨ts,[]⟩)=(aa.toList.map (Act.eval ⟨ts,[]⟩)).toArray:=by apply Array.ext';simp only[Array.toList_map]
  simp[execOp,resolve,e0,Deferred.ofValue,invoke,e1,callFunc,h1,h3]
  intro hn
  rw[hn]at h2
  simp at h2
 unfold Oper.wp
 rw[hrun]
 refine hC.mono fun e W' hE=>?_
 obtain⟨u,r,ys,rfl,hr,hbel,hok,hnd,hfp,hro⟩:=hE
 obtain⟨⟨v,os⟩,hbn⟩:=Option.isSome_iff_exists.1 (hb r hr)
 obtain⟨cs2,e1,e2,e3,e4⟩:=vM hro hok hbn
 have hk:=Nat.eq_of_beq_eq_true hk
 have hlen:=hR.len
 have hrs:aA (ob++os.map some) (cs++cs2)=aA ob cs++aA (os.map some) cs2:=by
  unfold aA
  rw[List.zipWith_append hlen]
 have hext:=hR.2.ext hbel
 have hnew:∀b∈(aA (os.map some) cs2).flatMap Res.S,W.heap.size≤b∧b<W'.heap.size:=fun b hb=>hfp b (by rw[←e2];exact hb)
 have hL:Loc x.M x.w W' (aA (ob++os.map some) (cs++cs2)) []:=by
  rw[hrs]
  refine⟨hext.chg,fun q hq=>?_,fun b hb=>?_,?_,fun _ h=>by cases h⟩
  ·rcases List.mem_append.1 hq with hq | hq
   ·exact hext.res q hq
   exact e3 q hq
  ·rw[List.flatMap_append,List.mem_append]at hb
   rcases hb with hb | hb
   ·exact hext.blk b hb
   exact⟨.inr (Nat.le_trans hR.2.chg.size (hnew b hb).1),(hnew b hb).2⟩
  rw[List.flatMap_append,List.nodup_append]
  refine⟨hext.nd,by rw[e2];exact hnd,fun a ha b hb e=>?_⟩
  subst e
  have:=(hR.2.blk a ha).2
  have:=(hnew a hb).1
  omega
 have hown:∀b∈bL (ob++os.map some) (cs++cs2),b∈bL ob cs∨W.heap.size≤b:=fun b hb=>by
  unfold bL at hb
  rw[hrs,List.flatMap_append,List.mem_append]at hb
  rcases hb with hb | hb
  ·exact .inl hb
  exact .inr (hnew b hb).1
 have hsame:Same cs (cs++cs2):=⟨by simp,fun k hk=>by simp[co,List.getElem?_append_left hk]⟩
 have hcoA:∀k,k<cs.length→co (cs++cs2) k=co cs k:=fun k hk=>by simp[co,List.getElem?_append_left hk]
 have hcoB:∀i,co (cs++cs2) (key+i)=co cs2 i:=fun i=>by
  unfold co
  rw[List.getElem?_append_right (by omega),show key+i-cs.length=i by omega]
 have hN:∀b,x.fr W ob cs b→x.fr W' (ob++os.map some) (cs++cs2) b:=fun b h=>kI h hbel.size hown
 have hkeep:∀b,x.fr W ob cs b→W'.heap[b]? =W.heap[b]? :=fun b h=>hbel.block b h.1.1
 have hN2:∀b,(fresh=false∧b∉VT.fpL ys∧b<W'.heap.size∧(x.fr W ob cs b∨W.heap.size≤b))→x.fr W' (ob++os.map some) (cs++cs2) b:=fun b hb=>by
  obtain⟨_,h5,h6,h7⟩:=hb
  rcases h7 with h7 | h7
  ·exact hN b h7
  refine⟨⟨h6,fun hm=>?_⟩,.inr (.inr (Nat.le_trans hR.2.chg.size h7))⟩
  rw[hrs,List.flatMap_append,List.mem_append]at hm
  rcases hm with hm | hm
  ·have:=(hR.2.blk b hm).2
   omega
  exact h5 (by rw[←e2];exact hm)
 obtain⟨g1,g2⟩:=e4 _ (cs++cs2) hN2 (by simp[e1];omega) (fun i _=>hcoB i)
 have hR':RelC x g (ob++os.map some) (cs++cs2) ts W':=by
  refine .of hR.1 hL ⟨by simp[hlen,e1],fun k o hk'=>?_⟩ (fun i hi=>?_) (hR.3.trans hsame)
  ·rcases Nat.lt_or_ge k ob.length with hlt | hge
   ·rw[List.getElem?_append_left hlt]at hk'
    have h5:=hR.obs.2 k o hk'
    rw[hcoA k (by omega)]
    exact⟨bR hkeep hN hsame _ _ h5.1,h5.2⟩
   rw[List.getElem?_append_right hge]at hk'
   have ho:os[k-ob.length]? =some o:=by
    rw[List.getElem?_map]at hk'
    cases hq:os[k-ob.length]? with
    | none=>rw[hq]at hk';cases hk'
    | some o'=>
     rw[hq]at hk'
     simp at hk'
     rw[hk']
   have h5:=g2 _ o ho
   have e9:=hcoB (k-ob.length)
   rw[show key+(k-ob.length)=k by omega]at e9
   rw[e9]
   exact h5
  obtain⟨u,h5,h6⟩:=hR.fv hi
  exact⟨u,h5,cP hkeep hN hsame _ _ h6⟩
 exact kk _ _ _ _ _ ⟨r,v,os,hr,hbn,rfl,rfl⟩ (hR'.put d g1) ⟨hsame,fun k _ hk=>hcoA k hk,hbel.size,fun b hlt _=>hbel.block b hlt,hown,fun i hi=>Array.getElem?_setIfInBounds_ne (fun e=>hi (by rw[e]))⟩
theorem Jo {fresh:Bool}{f:FuncId}{args:List FV}{r v:FV}{os:List Ob}{aa:Array Operand}{ats:Array TypeId}{key:Nat}(hw:aH ops x.n g gd=some true) (hS:aE fresh x.P f [] args (bC r)) (hf:CallOk x.P f) (ha:AL fresh x g ob aa.toList args) (hk:dB ob key=true) (hb:iV key r=some (v,os)) (k:WL x ops rest (aG g d v) (ob++os.map some) Q):
  WL x ops (⟨some d,.call ⟨.value (.func f),aa,ats⟩,ty,pos,af,gd⟩::rest) g ob Q:=
 dY (vN hS hf ha hk (by rintro _ rfl;rw[hb];rfl)) hw (by
  rintro _ _ ⟨r',v',os',rfl,h,rfl,rfl⟩
  rw[hb]at h
  injection h with h
  injection h with h1 h2
  subst h1 h2
  exact k)
theorem Jp {late:Nat→Bool}{K fr:List Nat}{fuel:Nat}{listed:Array Bool}{fresh:Bool}{f:FuncId}{args:List FV}{r v:FV}{os:List Ob}{aa:Array Operand}{ats:Array TypeId}{key:Nat}(i:Nat) (hr:Region.ready .any ops listed=[i]) (hi:ops[i]? =some ⟨some d,.call ⟨.value (.func f),aa,ats⟩,ty,pos,af,gd⟩) (hw:aH ops x.n g gd=some true) (hS:aE fresh x.P f [] args (bC r)) (hf:CallOk x.P f) (ha:AL fresh x g ob aa.toList args) (hk:dB ob key=true) (hb:iV key r=some (v,os)) (hK:Ni K ob=true)
  (k:WD x ops Q late K (d::fr) true fuel (listed.setIfInBounds i true) (aG g d v) (ob++os.map some)):WD x ops Q late K fr true (fuel+1) listed g ob:=
 Af (v:=v) i hr hi rfl hw (vN hS hf ha hk (by rintro _ rfl;rw[hb];rfl)) (by
  rintro _ _ ⟨r',v',os',rfl,h,rfl,rfl⟩
  rw[hb]at h
  injection h with h
  injection h with h1 h2
  subst h1 h2
  exact⟨rfl,fun k hk'=>Jn (o:=none) hK k hk'⟩) (by
  rintro _ _ ⟨r',v',os',rfl,h,rfl,rfl⟩
  rw[hb]at h
  injection h with h
  injection h with h1 h2
  subst h1 h2
  exact k)
end
set_option maxRecDepth 100000
theorem TyArr.mk2 {P:Program}{t n size:Nat}(e:Nat) (h:P.underlying t=some (.array n e)) (h2:(P.info? e).map (·.size)=some size):TyArr P t n size:=by
 obtain⟨i,h3,h4⟩:=Option.map_eq_some_iff.1 h2
 exact⟨e,i,h,h3,h4⟩
theorem Vr:dG Tryz.prog 2 ⟨false,1,[.int .i64 0],.it .i64⟩:=⟨⟨.mk (by kernel_rfl) (by kernel_rfl),rfl⟩,.mk (by kernel_rfl),.mk (by kernel_rfl),.mk (by kernel_rfl)⟩
theorem Vs:dG Tryz.prog 3 ⟨false,1,[.int .i64 0],.it .i64⟩:=⟨⟨.mk (by kernel_rfl) (by kernel_rfl),rfl⟩,.mk (by kernel_rfl),.mk (by kernel_rfl),.mk (by kernel_rfl)⟩
theorem Vt:dG Tryz.prog 4 ⟨false,1,[.bool false],.bl⟩:=⟨⟨.mk (by kernel_rfl) (by kernel_rfl),rfl⟩,.mk (by kernel_rfl),.mk (by kernel_rfl),.mk (by kernel_rfl)⟩
theorem Vu:dG Tryz.prog 5 ⟨false,1,[.int .u8 0],.it .u8⟩:=⟨⟨.mk (by kernel_rfl) (by kernel_rfl),rfl⟩,.mk (by kernel_rfl),.mk (by kernel_rfl),.mk (by kernel_rfl)⟩
theorem Vv:dG Tryz.prog 9 ⟨false,1,[.string ⟨#[]⟩],.str⟩:=⟨⟨.mk (by kernel_rfl) (by kernel_rfl),rfl⟩,.mk (by kernel_rfl),.mk (by kernel_rfl),.mk (by kernel_rfl)⟩
theorem Tw:dG Tryz.prog 22 ⟨false,1,[.int .u32 0],.it .u32⟩:=⟨⟨.mk (by kernel_rfl) (by kernel_rfl),rfl⟩,.mk (by kernel_rfl),.mk (by kernel_rfl),.mk (by kernel_rfl)⟩
theorem Tx:dG Tryz.prog 23 ⟨false,1,[.slice none 0 0],.sl 22 1 4 (.int .u32 0)⟩:=⟨⟨.mk (by kernel_rfl) (by kernel_rfl),rfl⟩,.mk (by kernel_rfl),.mk (by kernel_rfl),⟨.mk (by kernel_rfl) (by kernel_rfl),.mk (by kernel_rfl) (by kernel_rfl) rfl (by decide)⟩⟩
theorem Ty:dG Tryz.prog 25 ⟨false,1,[.int .i64 0],.it .i64⟩:=⟨⟨.mk (by kernel_rfl) (by kernel_rfl),rfl⟩,.mk (by kernel_rfl),.mk (by kernel_rfl),.mk (by kernel_rfl)⟩
theorem Tz:dG Tryz.prog 28 ⟨false,1,[.slice none 0 0],.sl 5 1 1 (.int .u8 0)⟩:=⟨⟨.mk (by kernel_rfl) (by kernel_rfl),rfl⟩,.mk (by kernel_rfl),.mk (by kernel_rfl),⟨.mk (by kernel_rfl) (by kernel_rfl),.mk (by kernel_rfl) (by kernel_rfl) rfl (by decide)⟩⟩
theorem Ua:dG Tryz.prog 39 ⟨false,1,[.slice none 0 0],.sl 23 1 24 (.slice none 0 0)⟩:=⟨⟨.mk (by kernel_rfl) (by kernel_rfl),rfl⟩,.mk (by kernel_rfl),.mk (by kernel_rfl),⟨.mk (by kernel_rfl) (by kernel_rfl),.mk (by kernel_rfl) (by kernel_rfl) rfl (by decide)⟩⟩
theorem Ub:dG Tryz.prog 42 ⟨false,1,[.slice none 0 0],.sl 9 1 16 (.string ⟨#[]⟩)⟩:=⟨⟨.mk (by kernel_rfl) (by kernel_rfl),rfl⟩,.mk (by kernel_rfl),.mk (by kernel_rfl),⟨.mk (by kernel_rfl) (by kernel_rfl),.mk (by kernel_rfl) (by kernel_rfl) rfl (by decide)⟩⟩
theorem Uc:dG Tryz.prog 44 ⟨true,2,[.bool false,.slice none 0 0],.st [(0,4,1),(1,23,1)]⟩:=⟨.mk (by kernel_rfl) (by kernel_rfl),.mk (by kernel_rfl),.mk (by kernel_rfl),⟨⟨.mk (by kernel_rfl),.mk (by kernel_rfl),⟨.mk (by kernel_rfl),.mk (by kernel_rfl),trivial⟩⟩,.mk (by kernel_rfl)⟩⟩
theorem Ud:dG Tryz.prog 47 ⟨true,2,[.bool false,.slice none 0 0],.st [(0,4,1),(1,23,1)]⟩:=⟨.mk (by kernel_rfl) (by kernel_rfl),.mk (by kernel_rfl),.mk (by kernel_rfl),⟨⟨.mk (by kernel_rfl),.mk (by kernel_rfl),⟨.mk (by kernel_rfl),.mk (by kernel_rfl),trivial⟩⟩,.mk (by kernel_rfl)⟩⟩
theorem Ue:dG Tryz.prog 69 ⟨false,1,[.slice none 0 0],.sl 2 1 8 (.int .i64 0)⟩:=⟨⟨.mk (by kernel_rfl) (by kernel_rfl),rfl⟩,.mk (by kernel_rfl),.mk (by kernel_rfl),⟨.mk (by kernel_rfl) (by kernel_rfl),.mk (by kernel_rfl) (by kernel_rfl) rfl (by decide)⟩⟩
theorem Uf:dG Tryz.prog 71 ⟨false,1,[.slice none 0 0],.sl 44 2 32 (.agg #[.bool false,.slice none 0 0])⟩:=⟨⟨.mk (by kernel_rfl) (by kernel_rfl),rfl⟩,.mk (by kernel_rfl),.mk (by kernel_rfl),⟨.mk (by kernel_rfl) (by kernel_rfl),.mk (by kernel_rfl) (by kernel_rfl) rfl (by decide)⟩⟩
theorem Ug:dG Tryz.prog 79 ⟨false,1,[.nilIface],.ot⟩:=⟨⟨.mk (by kernel_rfl) (by kernel_rfl),rfl⟩,.mk (by kernel_rfl),.mk (by kernel_rfl),trivial⟩
theorem Uh:dG Tryz.prog 85 ⟨false,1,[.int .u64 0],.it .u64⟩:=⟨⟨.mk (by kernel_rfl) (by kernel_rfl),rfl⟩,.mk (by kernel_rfl),.mk (by kernel_rfl),.mk (by kernel_rfl)⟩
theorem Ui:dG Tryz.prog 87 ⟨true,9,[.int .u8 0,.int .u8 0,.int .u8 0,.int .u8 0,.int .u8 0,.int .u8 0,.int .u8 0,.int .u8 0,.int .u8 0],.ar 9 1⟩:=⟨.mk (by kernel_rfl) (by kernel_rfl),.mk (by kernel_rfl),.mk (by kernel_rfl),TyArr.mk2 5 (by kernel_rfl) (by kernel_rfl)⟩
theorem Rb:dG Tryz.prog 103 ⟨true,2,[.bool false,.slice none 0 0],.st [(0,44,2)]⟩:=⟨.mk (by kernel_rfl) (by kernel_rfl),.mk (by kernel_rfl),.mk (by kernel_rfl),⟨⟨.mk (by kernel_rfl),.mk (by kernel_rfl),trivial⟩,.mk (by kernel_rfl)⟩⟩
theorem Rc:dG Tryz.prog 105 ⟨false,1,[.int .u64 0],.it .u64⟩:=⟨⟨.mk (by kernel_rfl) (by kernel_rfl),rfl⟩,.mk (by kernel_rfl),.mk (by kernel_rfl),.mk (by kernel_rfl)⟩
theorem Re:dG Tryz.prog 114 ⟨false,1,[.slice none 0 0],.sl 47 2 32 (.agg #[.bool false,.slice none 0 0])⟩:=⟨⟨.mk (by kernel_rfl) (by kernel_rfl),rfl⟩,.mk (by kernel_rfl),.mk (by kernel_rfl),⟨.mk (by kernel_rfl) (by kernel_rfl),.mk (by kernel_rfl) (by kernel_rfl) rfl (by decide)⟩⟩
theorem Rf:dG Tryz.prog 138 ⟨true,16,[.int .i64 0,.int .i64 0,.int .i64 0,.int .i64 0,.int .i64 0,.int .i64 0,.int .i64 0,.int .i64 0,.int .i64 0,.int .i64 0,.int .i64 0,.int .i64 0,.int .i64 0,.int .i64 0,.int .i64 0,.int .i64 0],.ar 16 1⟩:=⟨.mk (by kernel_rfl) (by kernel_rfl),.mk (by kernel_rfl),.mk (by kernel_rfl),TyArr.mk2 3 (by kernel_rfl) (by kernel_rfl)⟩
theorem Rg:dG Tryz.prog 142 ⟨false,1,[.slice none 0 0],.sl 3 1 8 (.int .i64 0)⟩:=⟨⟨.mk (by kernel_rfl) (by kernel_rfl),rfl⟩,.mk (by kernel_rfl),.mk (by kernel_rfl),⟨.mk (by kernel_rfl) (by kernel_rfl),.mk (by kernel_rfl) (by kernel_rfl) rfl (by decide)⟩⟩
theorem Rh:dG Tryz.prog 199 ⟨true,32,[.int .u8 0,.int .u8 0,.int .u8 0,.int .u8 0,.int .u8 0,.int .u8 0,.int .u8 0,.int .u8 0,.int .u8 0,.int .u8 0,.int .u8 0,.int .u8 0,.int .u8 0,.int .u8 0,.int .u8 0,.int .u8 0,.int .u8 0,.int .u8 0,.int .u8 0,.int .u8 0,.int .u8 0,.int .u8 0,.int .u8 0,.int .u8 0,.int .u8 0,.int .u8 0,.int .u8 0,.int .u8 0,.int .u8 0,.int .u8 0,.int .u8 0,.int .u8 0],.ar 32 1⟩:=⟨.mk (by kernel_rfl) (by kernel_rfl),.mk (by kernel_rfl),.mk (by kernel_rfl),TyArr.mk2 5 (by kernel_rfl) (by kernel_rfl)⟩
theorem Ri:dG Tryz.prog 200 ⟨true,64,[.int .u8 0,.int .u8 0,.int .u8 0,.int .u8 0,.int .u8 0,.int .u8 0,.int .u8 0,.int .u8 0,.int .u8 0,.int .u8 0,.int .u8 0,.int .u8 0,.int .u8 0,.int .u8 0,.int .u8 0,.int .u8 0,.int .u8 0,.int .u8 0,.int .u8 0,.int .u8 0,.int .u8 0,.int .u8 0,.int .u8 0,.int .u8 0,.int .u8 0,.int .u8 0,.int .u8 0,.int .u8 0,.int .u8 0,.int .u8 0,.int .u8 0,.int .u8 0,.int .u8 0,.int .u8 0,.int .u8 0,.int .u8 0,.int .u8 0,.int .u8 0,.int .u8 0,.int .u8 0,.int .u8 0,.int .u8 0,.int .u8 0,.int .u8 0,.int .u8 0,.int .u8 0,.int .u8 0,.int .u8 0,.int .u8 0,.int .u8 0,.int .u8 0,.int .u8 0,.int .u8 0,.int .u8 0,.int .u8 0,.int .u8 0,.int .u8 0,.int .u8 0,.int .u8 0,.int .u8 0,.int .u8 0,.int .u8 0,.int .u8 0,.int .u8 0],.ar 64 1⟩:=⟨.mk (by kernel_rfl) (by kernel_rfl),.mk (by kernel_rfl),.mk (by kernel_rfl),TyArr.mk2 5 (by kernel_rfl) (by kernel_rfl)⟩
def ttab:List (Nat×TI):=[(2,⟨false,1,[.int .i64 0],.it .i64⟩),
 (3,⟨false,1,[.int .i64 0],.it .i64⟩),
 (4,⟨false,1,[.bool false],.bl⟩),
 (5,⟨false,1,[.int .u8 0],.it .u8⟩),
 (9,⟨false,1,[.string ⟨#[]⟩],.str⟩),
 (22,⟨false,1,[.int .u32 0],.it .u32⟩),
 (23,⟨false,1,[.slice none 0 0],.sl 22 1 4 (.int .u32 0)⟩),
 (25,⟨false,1,[.int .i64 0],.it .i64⟩),
 (28,⟨false,1,[.slice none 0 0],.sl 5 1 1 (.int .u8 0)⟩),
 (39,⟨false,1,[.slice none 0 0],.sl 23 1 24 (.slice none 0 0)⟩),
 (42,⟨false,1,[.slice none 0 0],.sl 9 1 16 (.string ⟨#[]⟩)⟩),
 (44,⟨true,2,[.bool false,.slice none 0 0],.st [(0,4,1),(1,23,1)]⟩),
 (47,⟨true,2,[.bool false,.slice none 0 0],.st [(0,4,1),(1,23,1)]⟩),
 (69,⟨false,1,[.slice none 0 0],.sl 2 1 8 (.int .i64 0)⟩),
 (71,⟨false,1,[.slice none 0 0],.sl 44 2 32 (.agg #[.bool false,.slice none 0 0])⟩),
 (79,⟨false,1,[.nilIface],.ot⟩),
 (85,⟨false,1,[.int .u64 0],.it .u64⟩),
 (87,⟨true,9,[.int .u8 0,.int .u8 0,.int .u8 0,.int .u8 0,.int .u8 0,.int .u8 0,.int .u8 0,.int .u8 0,.int .u8 0],.ar 9 1⟩),
 (103,⟨true,2,[.bool false,.slice none 0 0],.st [(0,44,2)]⟩),
 (105,⟨false,1,[.int .u64 0],.it .u64⟩),
 (114,⟨false,1,[.slice none 0 0],.sl 47 2 32 (.agg #[.bool false,.slice none 0 0])⟩),
 (138,⟨true,16,[.int .i64 0,.int .i64 0,.int .i64 0,.int .i64 0,.int .i64 0,.int .i64 0,.int .i64 0,.int .i64 0,.int .i64 0,.int .i64 0,.int .i64 0,.int .i64 0,.int .i64 0,.int .i64 0,.int .i64 0,.int .i64 0],.ar 16 1⟩),
 (142,⟨false,1,[.slice none 0 0],.sl 3 1 8 (.int .i64 0)⟩),
 (199,⟨true,32,[.int .u8 0,.int .u8 0,.int .u8 0,.int .u8 0,.int .u8 0,.int .u8 0,.int .u8 0,.int .u8 0,.int .u8 0,.int .u8 0,.int .u8 0,.int .u8 0,.int .u8 0,.int .u8 0,.int .u8 0,.int .u8 0,.int .u8 0,.int .u8 0,.int .u8 0,.int .u8 0,.int .u8 0,.int .u8 0,.int .u8 0,.int .u8 0,.int .u8 0,.int .u8 0,.int .u8 0,.int .u8 0,.int .u8 0,.int .u8 0,.int .u8 0,.int .u8 0],.ar 32 1⟩),
 (200,⟨true,64,[.int .u8 0,.int .u8 0,.int .u8 0,.int .u8 0,.int .u8 0,.int .u8 0,.int .u8 0,.int .u8 0,.int .u8 0,.int .u8 0,.int .u8 0,.int .u8 0,.int .u8 0,.int .u8 0,.int .u8 0,.int .u8 0,.int .u8 0,.int .u8 0,.int .u8 0,.int .u8 0,.int .u8 0,.int .u8 0,.int .u8 0,.int .u8 0,.int .u8 0,.int .u8 0,.int .u8 0,.int .u8 0,.int .u8 0,.int .u8 0,.int .u8 0,.int .u8 0,.int .u8 0,.int .u8 0,.int .u8 0,.int .u8 0,.int .u8 0,.int .u8 0,.int .u8 0,.int .u8 0,.int .u8 0,.int .u8 0,.int .u8 0,.int .u8 0,.int .u8 0,.int .u8 0,.int .u8 0,.int .u8 0,.int .u8 0,.int .u8 0,.int .u8 0,.int .u8 0,.int .u8 0,.int .u8 0,.int .u8 0,.int .u8 0,.int .u8 0,.int .u8 0,.int .u8 0,.int .u8 0,.int .u8 0,.int .u8 0,.int .u8 0,.int .u8 0],.ar 64 1⟩)]
theorem aB:aZ Tryz.prog ttab:=⟨Vr,Vs,Vt,Vu,Vv,Tw,Tx,Ty,Tz,Ua,Ub,Uc,Ud,Ue,Uf,Ug,Uh,Ui,Rb,Rc,Re,Rf,Rg,Rh,Ri,trivial⟩
theorem Vx:CallOk Tryz.prog 9:=.mk Tryz.func9 (by decide) rfl
theorem Nl:CallOk Tryz.prog 14:=.mk Tryz.func14 (by decide) rfl
theorem Ft:CallOk Tryz.prog 21:=.mk Tryz.func21 (by decide) rfl
theorem Uj:CallOk Tryz.prog 22:=.mk Tryz.func22 (by decide) rfl
theorem Uk:CallOk Tryz.prog 23:=.mk Tryz.func23 (by decide) rfl
theorem Fu:CallOk Tryz.prog 24:=.mk Tryz.func24 (by decide) rfl
theorem Ul:CallOk Tryz.prog 25:=.mk Tryz.func25 (by decide) rfl
theorem Fv:CallOk Tryz.prog 26:=.mk Tryz.func26 (by decide) rfl
theorem eD:CallOk Tryz.prog 27:=.mk Tryz.func27 (by decide) rfl
theorem Fw:CallOk Tryz.prog 28:=.mk Tryz.func28 (by decide) rfl
theorem Nm:CallOk Tryz.prog 29:=.mk Tryz.func29 (by decide) rfl
theorem Um:CallOk Tryz.prog 30:=.mk Tryz.func30 (by decide) rfl
theorem Fx:CallOk Tryz.prog 31:=.mk Tryz.func31 (by decide) rfl
theorem Un:CallOk Tryz.prog 32:=.mk Tryz.func32 (by decide) rfl
theorem Fy:CallOk Tryz.prog 33:=.mk Tryz.func33 (by decide) rfl
theorem Uo:CallOk Tryz.prog 34:=.mk Tryz.func34 (by decide) rfl
theorem oB:CallOk Tryz.prog 35:=.mk Tryz.func35 (by decide) rfl
theorem Up:CallOk Tryz.prog 37:=.mk Tryz.func37 (by decide) rfl
theorem Uq:CallOk Tryz.prog 38:=.mk Tryz.func38 (by decide) rfl
theorem Ur:CallOk Tryz.prog 40:=.mk Tryz.func40 (by decide) rfl
theorem Nn:CallOk Tryz.prog 41:=.mk Tryz.func41 (by decide) rfl
theorem Us:CallOk Tryz.prog 44:=.mk Tryz.func44 (by decide) rfl
theorem Ut:CallOk Tryz.prog 45:=.mk Tryz.func45 (by decide) rfl
theorem Uu:CallOk Tryz.prog 46:=.mk Tryz.func46 (by decide) rfl
theorem No:CallOk Tryz.prog 48:=.mk Tryz.func48 (by decide) rfl
theorem Ah:CallOk Tryz.prog 49:=.mk Tryz.func49 (by decide) rfl
theorem sJ:CallOk Tryz.prog 50:=.mk Tryz.func50 (by decide) rfl
theorem Aj:CallOk Tryz.prog 51:=.mk Tryz.func51 (by decide) rfl
theorem Uv:CallOk Tryz.prog 56:=.mk Tryz.func56 (by decide) rfl
theorem Uw:CallOk Tryz.prog 57:=.mk Tryz.func57 (by decide) rfl
theorem Ux:CallOk Tryz.prog 58:=.mk Tryz.func58 (by decide) rfl
theorem Uy:CallOk Tryz.prog 59:=.mk Tryz.func59 (by decide) rfl
theorem Uz:CallOk Tryz.prog 67:=.mk Tryz.func67 (by decide) rfl
theorem Va:CallOk Tryz.prog 68:=.mk Tryz.func68 (by decide) rfl
theorem gP:CallOk Tryz.prog 69:=.mk Tryz.func69 (by decide) rfl
theorem Ak:CallOk Tryz.prog 70:=.mk Tryz.func70 (by decide) rfl
theorem Al:CallOk Tryz.prog 71:=.mk Tryz.func71 (by decide) rfl
theorem Fz:CallOk Tryz.prog 72:=.mk Tryz.func72 (by decide) rfl
theorem cB:CallOk Tryz.prog 73:=.mk Tryz.func73 (by decide) rfl
theorem Np:CallOk Tryz.prog 74:=.mk Tryz.func74 (by decide) rfl
theorem Am:CallOk Tryz.prog 75:=.mk Tryz.func75 (by decide) rfl
theorem Vb:CallOk Tryz.prog 76:=.mk Tryz.func76 (by decide) rfl
theorem Ga:CallOk Tryz.prog 77:=.mk Tryz.func77 (by decide) rfl
theorem Vc:CallOk Tryz.prog 78:=.mk Tryz.func78 (by decide) rfl
theorem Vd:CallOk Tryz.prog 80:=.mk Tryz.func80 (by decide) rfl
theorem Ve:CallOk Tryz.prog 90:=.mk Tryz.func90 (by decide) rfl
theorem mK:CallOk Tryz.prog 119:=.mk Tryz.func119 (by decide) rfl
theorem iO:CallOk Tryz.prog 120:=.mk Tryz.func120 (by decide) rfl
theorem uC:CallOk Tryz.prog 121:=.mk Tryz.func121 (by decide) rfl
theorem Rj:CallOk Tryz.prog 122:=.mk Tryz.func122 (by decide) rfl
theorem Ia:CallOk Tryz.prog 123:=.mk Tryz.func123 (by decide) rfl
theorem Ib:CallOk Tryz.prog 146:=.mk Tryz.func146 (by decide) rfl
theorem mixed:Tryz.prog.follows .mixedOrders=true:=by kernel_rfl
section
variable {x:Cx}{g:Nat→FV}{ob ob':List (Option Ob)}{Q:Post}{ops:Array Oper}{rest:List Oper}{d:Nat}{op:Op}{ty:TypeId}{pos:String}{af:Array Edge}{gd:Option (Nat×Bool)}{C:Prop}{v:FV}
theorem o1 (k:WL x ops rest (aG g d v) ob Q) (hT:aZ x.P ttab:=by exact aB) (hw:aH ops x.n g gd=some true:=by rfl) (h:mW ttab x.n g op=some (C,v):=by rfl) (hC:C:=by first | trivial | omega | (simp only[fA];omega)):WL x ops (⟨some d,op,ty,pos,af,gd⟩::rest) g ob Q:=Vi hT hw h hC k
theorem ld {t:Nat}{i:TI}{a:Operand}(k:WL x ops rest (aG g d v) ob Q) (hT:aZ x.P ttab:=by exact aB) (hw:aH ops x.n g gd=some true:=by rfl) (hi:aJ ttab t=some i:=by rfl) (h:lC ob i (lk x.n g a)=some (C,v):=by rfl):WL x ops (⟨some d,.load t a,ty,pos,af,gd⟩::rest) g ob Q:=Tp hT hw hi h k
theorem mY {t:Nat}{i:TI}{a:Operand}{l:List Tr}{of:Nat}(us:List Tr) (hl:(l.drop of).take us.length=us) (k:WL x ops rest (aG g d v) ob Q) (hT:aZ x.P ttab:=by exact aB) (hw:aH ops x.n g gd=some true:=by rfl) (hi:aJ ttab t=some i:=by rfl) (h:lk x.n g a=.one (.ef l of):=by rfl) (hv:uV i us=some v:=by rfl):WL x ops (⟨some d,.load t a,ty,pos,af,gd⟩::rest) g ob Q:=Qy hT hw hi h hl hv k
theorem al {t:Nat}(key:Nat) (k:WL x ops rest (aG g d (.one (.pt key 0))) ob' Q) (hT:aZ x.P ttab:=by exact aB) (hw:aH ops x.n g gd=some true:=by rfl) (h:rX ttab t key ob=some ob':=by rfl):WL x ops (⟨some d,.alloc t,ty,pos,af,gd⟩::rest) g ob Q:=Tq hT hw h k
theorem bx {t:Nat}{a:Operand}(key:Nat) (k:WL x ops rest (aG g d (.one (.pt key 0))) ob' Q) (hw:aH ops x.n g gd=some true:=by rfl) (h:zX t key (lk x.n g a) ob=some ob':=by rfl):WL x ops (⟨some d,.box t a,ty,pos,af,gd⟩::rest) g ob Q:=Ts hw h k
theorem st {t:Nat}{i:TI}{a b:Operand}(k:WL x ops rest g ob' Q) (hT:aZ x.P ttab:=by exact aB) (hw:aH ops x.n g gd=some true:=by rfl) (hi:aJ ttab t=some i:=by rfl) (h:pR i ob (lk x.n g b) (lk x.n g a)=some ob':=by rfl):WL x ops (⟨none,.store t a b,ty,pos,af,gd⟩::rest) g ob Q:=Tt hT hw hi h k
theorem bs {t len:Nat}{ps:Array (Nat×Operand)}(key:Nat) (k:WL x ops rest (aG g d (.one (.sl key 0 len))) ob' Q) (hT:aZ x.P ttab:=by exact aB) (hw:aH ops x.n g gd=some true:=by rfl) (h:sE ttab x.n g t len key ps.toList ob=some ob':=by rfl):WL x ops (⟨some d,.buildSlice t len ps,ty,pos,af,gd⟩::rest) g ob Q:=Tu hT hw h k
theorem dL {o:Oper}(k:WL x ops rest (aG g d (.one (tv undef))) ob Q) (hw:aH ops x.n g o.guard=some false:=by rfl) (hd:o.dst=some d:=by rfl):WL x ops (o::rest) g ob Q:=To hw hd k
theorem ca {fresh:Bool}{f:FuncId}{args:List FV}{r:FV}{aa:Array Operand}{ats:Array TypeId}(hS:aE fresh x.P f [] args (bC r)) (hf:CallOk x.P f) (ha:AL fresh x g ob aa.toList args) (v:FV) (k:WL x ops rest (aG g d v) ob Q) (hw:aH ops x.n g gd=some true:=by rfl) (hv:pE r=v:=by rfl):
  WL x ops (⟨some d,.call ⟨.value (.func f),aa,ats⟩,ty,pos,af,gd⟩::rest) g ob Q:=Nh hw hS hf ha hv k
variable {late:Nat→Bool}{K fr:List Nat}{on:Bool}{fuel:Nat}{listed:Array Bool}
theorem dv (i:Nat) (k:WD x ops Q late K fr true fuel (listed.setIfInBounds i true) (aG g d v) ob) (hT:aZ x.P ttab:=by exact aB) (hi:ops[i]? =some ⟨some d,op,ty,pos,af,gd⟩:=by rfl) (hst:jT ops late listed i=true:=by kernel_rfl) (hw:aH ops x.n g gd=some true:=by rfl) (h:mW ttab x.n (gM fr g) op=some (C,v):=by rfl) (hC:C:=by first | trivial | omega | (simp only[fA];omega)) (hg:mW ttab x.n g op=some (C,v):=by rfl):WD x ops Q late K fr true (fuel+1) listed g ob:=dt i hT hi hst hw h hC hg k
theorem df (i:Nat) (k:WD x ops Q late K (d::fr) true fuel (listed.setIfInBounds i true) (aG g d v) ob) (hT:aZ x.P ttab:=by exact aB) (hi:ops[i]? =some ⟨some d,op,ty,pos,af,gd⟩:=by rfl) (hst:jT ops late listed i=true:=by kernel_rfl) (hw:aH ops x.n g gd=some true:=by rfl) (h:mW ttab x.n g op=some (C,v):=by rfl) (hC:C:=by first | trivial | omega | (simp only[fA];omega)):WD x ops Q late K fr true (fuel+1) listed g ob:=Vj i hT hi hst hw h hC k
theorem cT {t:Nat}{ti:TI}{a:Operand}{key off:Nat}(i:Nat) (k:WD x ops Q late K fr true fuel (listed.setIfInBounds i true) (aG g d v) ob) (hT:aZ x.P ttab:=by exact aB) (hi:ops[i]? =some ⟨some d,.load t a,ty,pos,af,gd⟩:=by rfl) (hst:jT ops late listed i=true:=by kernel_rfl) (hw:aH ops x.n g gd=some true:=by rfl) (hti:aJ ttab t=some ti:=by rfl) (hlk:lk x.n g a=.one (.pt key off):=by rfl) (hK:K.contains key=true:=by rfl) (h:lC ob ti (.one (.pt key off))=some (C,v):=by rfl):WD x ops Q late K fr true (fuel+1) listed g ob:=dl i hT hi hst hw hti hlk hK h k
theorem Ic {t:Nat}{ti:TI}{a:Operand}{l:List Tr}{of:Nat}(i:Nat) (us:List Tr) (hl:(l.drop of).take us.length=us) (k:WD x ops Q late K fr true fuel (listed.setIfInBounds i true) (aG g d v) ob) (hT:aZ x.P ttab:=by exact aB) (hi:ops[i]? =some ⟨some d,.load t a,ty,pos,af,gd⟩:=by rfl) (hst:jT ops late listed i=true:=by kernel_rfl) (hw:aH ops x.n g gd=some true:=by rfl) (hti:aJ ttab t=some ti:=by rfl) (hlk:lk x.n (gM fr g) a=.one (.ef l of):=by rfl) (hv:uV ti us=some v:=by rfl):WD x ops Q late K fr true (fuel+1) listed g ob:=Vk i hT hi hst hw hti hlk hl hv k
theorem bS {fresh:Bool}{f:FuncId}{args:List FV}{r:FV}{aa:Array Operand}{ats:Array TypeId}(i:Nat) (hi:ops[i]? =some ⟨some d,.call ⟨.value (.func f),aa,ats⟩,ty,pos,af,gd⟩) (hS:aE fresh x.P f [] args (bC r)) (hf:CallOk x.P f) (ha:AL fresh x g ob aa.toList args) (v:FV) (k:WD x ops Q late K (d::fr) true fuel (listed.setIfInBounds i true) (aG g d v) ob) (hr:Region.ready .any ops listed=[i]:=by kernel_rfl) (hw:aH ops x.n g gd=some true:=by rfl) (hv:pE r=v:=by rfl):WD x ops Q late K fr true (fuel+1) listed g ob:=Nj i hr hi hw hS hf ha hv k
theorem hG {fresh:Bool}{f:FuncId}{args:List FV}{r:FV}{aa:Array Operand}{ats:Array TypeId}(i:Nat) (hi:ops[i]? =some ⟨some d,.call ⟨.value (.func f),aa,ats⟩,ty,pos,af,gd⟩) (hS:aE fresh x.P f [] args (bC r)) (hf:CallOk x.P f) (ha:AL fresh x g ob aa.toList args) (v:FV) (k:WD x ops Q late K (d::fr) true fuel (listed.setIfInBounds i true) (aG g d v) ob) (hw:aH ops x.n g gd=some true:=by rfl) (hv:pE r=v:=by rfl):WO x ops Q late K fr true fuel listed i g ob:=Nk i hi hw hS hf ha hv k
theorem dst {t:Nat}{ti:TI}{a b:Operand}(i:Nat) (k:WD x ops Q late K fr false fuel (listed.setIfInBounds i true) g ob') (hT:aZ x.P ttab:=by exact aB) (hr:Region.ready .any ops listed=[i]:=by kernel_rfl) (hi:ops[i]? =some ⟨none,.store t a b,ty,pos,af,gd⟩:=by rfl) (hw:aH ops x.n g gd=some true:=by rfl) (hti:aJ ttab t=some ti:=by rfl) (h:pR ti ob (lk x.n g b) (lk x.n g a)=some ob':=by rfl) (hl:late i=true:=by rfl):WD x ops Q late K fr on (fuel+1) listed g ob:=Tv i hr hi hw hT hti h hl k
theorem hH {fresh:Bool}{f:FuncId}{args:List FV}{r:FV}{os:List Ob}{aa:Array Operand}{ats:Array TypeId}(key:Nat) (hS:aE fresh x.P f [] args (bC r)) (hf:CallOk x.P f) (ha:AL fresh x g ob aa.toList args) (k:WL x ops rest (aG g d v) (ob++os.map some) Q) (hw:aH ops x.n g gd=some true:=by rfl) (hk:dB ob key=true:=by rfl) (hb:iV key r=some (v,os):=by rfl):
  WL x ops (⟨some d,.call ⟨.value (.func f),aa,ats⟩,ty,pos,af,gd⟩::rest) g ob Q:=Jo hw hS hf ha hk hb k
theorem Id {fresh:Bool}{f:FuncId}{args:List FV}{r:FV}{os:List Ob}{aa:Array Operand}{ats:Array TypeId}(key i:Nat) (hi:ops[i]? =some ⟨some d,.call ⟨.value (.func f),aa,ats⟩,ty,pos,af,gd⟩) (hS:aE fresh x.P f [] args (bC r)) (hf:CallOk x.P f) (ha:AL fresh x g ob aa.toList args) (k:WD x ops Q late K (d::fr) true fuel (listed.setIfInBounds i true) (aG g d v) (ob++os.map some)) (hr:Region.ready .any ops listed=[i]:=by kernel_rfl) (hw:aH ops x.n g gd=some true:=by rfl) (hk:dB ob key=true:=by rfl) (hb:iV key r=some (v,os):=by rfl) (hK:Ni K ob=true:=by rfl):WD x ops Q late K fr true (fuel+1) listed g ob:=Jp i hr hi hw hS hf ha hk hb hK k
theorem cR (h:Q .normal g ob) (hr:Region.ready .any ops listed=[]:=by kernel_rfl):WD x ops Q late K fr on fuel listed g ob:=dz hr h
end
theorem Cm {β:Type}:∀{o:Nat}{l:List AV}{a:AV}{r:List AV}{k:List AV→Option β},l.drop o=a::r→dp o l k=k (a::r)
 | 0,l,a,r,k,h=>by rw[List.drop_zero]at h;subst h;rfl
 | o+1,[],a,r,k,h=>by simp at h
 | o+1,b::l,a,r,k,h=>by
  rw[List.drop_succ_cons]at h
  exact Cm (o:=o) h
theorem Nq {ob:List (Option Ob)}{i:TI}{k o t z:Nat}{l:List AV}{a:AV}(ho:bI ob k=some ⟨t,z,l⟩) (hx:l[o]? =some a) (ha:i.agg=false) (hr:kJ a=true):lC ob i (.one (.pt k o))=some (True,.one a):=by
 obtain⟨h1,h2⟩:=List.getElem?_eq_some_iff.1 hx
 have h3:l.drop o=a::l.drop (o+1):=by rw[List.drop_eq_getElem_cons h1,h2]
 unfold lC
 dsimp only
 rw[ho]
 dsimp only
 unfold Nb
 rw[Cm h3,ha]
 simp[uU,eO,hr,ev]
section
variable {x:Cx}{g:Nat→FV}{ob ob':List (Option Ob)}{Q:Post}{ops:Array Oper}{rest:List Oper}{d:Nat}{ty:TypeId}{pos:String}{af:Array Edge}{gd:Option (Nat×Bool)}{T:List (Nat×TI)}
theorem Rk {t e by_ k m:Nat}{ti:Bool}{ts0:Nat}{z0:List Value}{kk k1 k2:IntKind}{a b:Operand}(hT:aZ x.P T) (ht:aJ T t=some ⟨ti,ts0,z0,.sl e 1 by_ (.int kk 0)⟩) (ha:lk x.n g a=.one (tv (.int k1 (m:Int)))) (hb:lk x.n g b=.one (tv (.int k2 (m:Int)))) (hby:by_≤16) (hm:m≤8796093022208) (hk:dB ob k=true):
  OS x ⟨some d,.makeSlice t a b,ty,pos,af,gd⟩ g ob [] (fun g' ob2=>g'=aG g d (.one (.sl k 0 m))∧ob2=ob++[some ⟨e,1,(List.replicate m (Value.int kk 0)).map tv⟩]):=by
 obtain⟨_,hel⟩:=(bJ hT ht).2.2.2
 obtain⟨hu,i,hi,hz,hsize,hby',hzs,hsz⟩:=hel
 subst hby'
 have hk:=Nat.eq_of_beq_eq_true hk
 subst hk
 intro cs ts W hR K Q' kk'
 have e1:=hR.lk a
 rw[ha]at e1
 have e1:=aD e1
 have e2:=hR.lk b
 rw[hb]at e2
 have e2:=aD e2
 have hmul:i.bytes*m≤16*8796093022208:=Nat.mul_le_mul hby hm
 obtain⟨w',hrun,h1,h2⟩:=run_make_full (P:=x.P) W 0 t e i (.int kk 0) 1 hu hi hz hsize k1 k2 m (by omega) (by unfold maxLen;omega) (Nat.zero_le _)
 have hrun':(execOp (Act.eval ⟨ts,[]⟩) ⟨some d,.makeSlice t a b,ty,pos,af,gd⟩).run x.P W=.ok (.value (.slice (some ⟨W.heap.size,0,none⟩) m m)) w':=by
  simp[execOp,e1,e2,hrun]
 have e0:(madeCells (Value.int kk 0).cells (m*1)).toList=List.replicate m (.int kk 0):=by
  rw[Nat.mul_one]
  show(madeCells #[Value.int kk 0] m).toList=_
  rw[toList_madeCells_one]
 rw[e0]at h1
 generalize hus:List.replicate m (Value.int kk 0)=us at h1 kk'
 have hbl:Below W.heap.size W w':=(Below.refl _ _).grown h2 (Nat.le_refl _) (fun k hk=>by cases hk)
 rcases h1.2 with⟨hh,_⟩ | ⟨g1,cap,cur,hv,_,hg,hnc,hcm,hcs,htake⟩
 ·injection hh with h3;cases h3
 injection hv with q1 q2 q3
 injection q1 with q1
 injection q1 with q1
 subst q1 q3
 have hlt:W.heap.size<w'.heap.size:=(Array.getElem?_eq_some_iff.1 hg).1
 have hcur:cur.toList=us:=by
  have h9:cur.toList.length=m*1:=by simpa using hcs
  rw[←htake,List.take_of_length_le (by omega)]
 have hS:∀b∈(aC (some ⟨e,1,us.map tv⟩) ⟨some W.heap.size,m,us.map .w⟩).S,W.heap.size≤b∧b<w'.heap.size:=by
  intro b hb
  simp[aC,gL]at hb
  subst hb
  exact⟨Nat.le_refl _,hlt⟩
 have hown:∀b∈bL (ob++[some ⟨e,1,us.map tv⟩]) (cs++[⟨some W.heap.size,m,us.map .w⟩]),b∈bL ob cs∨W.heap.size≤b:=by
  intro b hb
  unfold bL aA at hb
  rw[List.zipWith_append hR.len,List.flatMap_append,List.mem_append]at hb
  rcases hb with hb | hb
  ·exact .inl hb
  exact .inr (hS b (by simpa using hb)).1
 have m1:RelC x g (ob++[some ⟨e,1,us.map tv⟩]) (cs++[⟨some W.heap.size,m,us.map .w⟩]) ts w':=by
  refine hR.push hbl _ _ ?_ hS (by simp[aC,gL]) ?_ (fun e=>by cases e)
  ·have hul:us.length=m:=by rw[←hus,List.length_replicate]
   simp only[aC,mG]
   refine⟨⟨[],?_,by simp[hul]⟩,mF _,hcm⟩
   rw[List.append_nil,hg,←hcur]
  exact lD (gJ _) (nN _)
 refine cD hrun' (kk' _ _ _ _ _ ⟨rfl,rfl⟩ (m1.put d ?_) ((Aft.mk .app (fun k _ hk=>jQ hk) hbl.size (fun b hlt _=>hbl.block b hlt) hown (fun _ _=>rfl):Aft [] (some d) ob cs ts W _ _ ts w').then_put _))
 refine dP ?_
 simp only[AR]
 rw[hR.len,eH]
 exact⟨by simp[hR.len],0,m,rfl,Nat.le_refl _,hcm,fun _=>rfl,fun _=>rfl⟩
inductive FzN (key:Nat):List AV→List AV→Prop
 | nil:FzN key [] []
 | id {a:AV}{l l':List AV}(h:FzN key l l'):FzN key (a::l) (a::l')
 | sl {l l':List AV}(h:FzN key l l'):FzN key (tv (.slice none 0 0)::l) (.sl key 0 0::l')
theorem FzN.ok {key:Nat}{W:World}{N:Nat→Prop}{cs:List Co}(hk:key<cs.length) (hb:(co cs key).b=none):∀{l l':List AV},FzN key l l'→∀{ys:List VT},aN W N cs l ys→aN W N cs l' ys
 | _,_,.nil,ys,h=>h
 | _,_,.id h',[],h=>by simp only[aN]at h
 | _,_,.id h',y::ys,h=>by
  simp only[aN]at h⊢
  exact⟨h.1,FzN.ok hk hb h' h.2⟩
 | _,_,.sl h',[],h=>by simp only[aN]at h
 | _,_,.sl h',y::ys,h=>by
  simp only[aN]at h⊢
  refine⟨?_,FzN.ok hk hb h' h.2⟩
  have h1:=h.1
  simp only[tv,CR,OR]at h1
  subst h1
  simp only[CR,AR,hb]
  exact⟨hk,trivial,trivial,trivial⟩
theorem FzN.nl {key:Nat}:∀{l l':List AV},FzN key l l'→(l=[]↔l'=[])
 | _,_,.nil=>Iff.rfl
 | _,_,.id h'=>by simp
 | _,_,.sl h'=>by simp
theorem mk {t e by_ m:Nat}{ti:Bool}{ts0:Nat}{z0:List Value}{kk k1 k2:IntKind}{a b:Operand}(key:Nat) (hm:m≤8796093022208){l:List AV}(hl:(List.replicate m (Value.int kk 0)).map tv=l) (k:WL x ops rest (aG g d (.one (.sl key 0 m))) (ob++[some ⟨e,1,l⟩]) Q) (hT:aZ x.P ttab:=by exact aB) (hw:aH ops x.n g gd=some true:=by rfl)
  (ht:aJ ttab t=some ⟨ti,ts0,z0,.sl e 1 by_ (.int kk 0)⟩:=by rfl) (ha:lk x.n g a=.one (tv (.int k1 (m:Int))):=by rfl) (hb:lk x.n g b=.one (tv (.int k2 (m:Int))):=by rfl) (hby:by_≤16:=by decide) (hk:dB ob key=true:=by rfl):WL x ops (⟨some d,.makeSlice t a b,ty,pos,af,gd⟩::rest) g ob Q:=by
 subst hl
 exact dY (Rk hT ht ha hb hby hm hk) hw (by rintro _ _ ⟨rfl,rfl⟩;exact k)
theorem Td {t key o t' z':Nat}{ti:TI}{a b:Operand}{l l' us:List AV}(hl:cJ l o us=l') (hle:o+us.length≤l.length) (k:WL x ops rest g (ob.set key (some ⟨t',z',l'⟩)) Q) (hT:aZ x.P ttab:=by exact aB) (hw:aH ops x.n g gd=some true:=by rfl) (hti:aJ ttab t=some ti:=by rfl) (hlk:lk x.n g a=.one (.pt key o):=by rfl) (ho:bI ob key=some ⟨t',z',l⟩:=by rfl)
  (hb:nM (lk x.n g b)=some us:=by rfl) (hlo:cN us=true:=by rfl) (hsz:Nat.beq us.length ti.size=true:=by rfl):WL x ops (⟨none,.store t a b,ty,pos,af,gd⟩::rest) g ob Q:=
 dY (qN hT hti hlk hb hlo hsz ho hle hl) hw (by rintro _ _ ⟨rfl,rfl⟩;exact k)
variable {late:Nat→Bool}{K fr:List Nat}{on:Bool}{fuel:Nat}{listed:Array Bool}
theorem Nr {t key o t' z':Nat}{ti:TI}{a b:Operand}{l l' us:List AV}(i:Nat) (hl:cJ l o us=l') (hle:o+us.length≤l.length) (k:WD x ops Q late K fr false fuel (listed.setIfInBounds i true) g (ob.set key (some ⟨t',z',l'⟩))) (hT:aZ x.P ttab:=by exact aB) (hr:Region.ready .any ops listed=[i]:=by kernel_rfl) (hi:ops[i]? =some ⟨none,.store t a b,ty,pos,af,gd⟩:=by rfl) (hw:aH ops x.n g gd=some true:=by rfl) (hti:aJ ttab t=some ti:=by rfl)
  (hlk:lk x.n g a=.one (.pt key o):=by rfl) (ho:bI ob key=some ⟨t',z',l⟩:=by rfl) (hb:nM (lk x.n g b)=some us:=by rfl) (hlo:cN us=true:=by rfl) (hsz:Nat.beq us.length ti.size=true:=by rfl) (hlate:late i=true:=by rfl):WD x ops Q late K fr on (fuel+1) listed g ob:=by
 refine uY i hr hi hw (qN (ty:=ty) (pos:=pos) (af:=af) (gd:=gd) hT hti hlk hb hlo hsz ho hle hl) false (fun h=>by cases h) (fun h=>by rw[hlate]at h;cases h) (fun h=>by cases h) fun g' ob' hR=>?_
 obtain⟨rfl,rfl⟩:=hR
 exact k
end
theorem Loc.cut {M:List Nat}{w W:World}{L L':List Res}{F:List Sh}(h:Loc M w W L F) (hc:∀b,(L'.flatMap Res.S).count b≤(L.flatMap Res.S).count b) (hφ:∀r∈L',r.φ W):Loc M w W L' F:=by
 have hin:∀b,b∈L'.flatMap Res.S→b∈L.flatMap Res.S:=fun b hb=>List.count_pos_iff.1 (Nat.lt_of_lt_of_le (List.count_pos_iff.2 hb) (hc b))
 exact⟨h.chg,hφ,fun b hb=>h.blk b (hin b hb),List.nodup_iff_count.2 fun b=>Nat.le_trans (hc b) (List.nodup_iff_count.1 h.nd b),fun q hq=>q.mono _ _ _ (fun b hb=>⟨hb.1,fun hm=>hb.2 (hin b hm)⟩) (h.shr q hq)⟩
section
variable {x:Cx}{g g':Nat→FV}{ob ob':List (Option Ob)}{cs cs':List Co}{ts ts':Array Value}{W W':World}{T:List (Nat×TI)}{Q:Post}{ops:Array Oper}{rest:List Oper}
theorem Same.set {k:Nat}{c:Co}(hk:k<cs.length) (hb:c.b=(co cs k).b) (hc:c.c=(co cs k).c):Same cs (cs.set k c):=⟨by simp,fun j hj=>by
 rw[nL hk]
 split
 ·rename_i e
  subst e
  exact⟨hb,hc⟩
 exact⟨rfl,rfl⟩⟩
end
def dQ (ob:List (Option Ob)) (K0:List Nat):List Nat→List Lt→Prop
 | [],l=>l=[]
 | _::_,[]=>False
 | k::K,a::l=>tF K0 (bI ob k) a.ob∧dQ ob K0 K l
def dC (K0:List Nat):List Lt→List (Option Ob)→Prop
 | [],l=>l=[]
 | _::_,[]=>False
 | a::l,o::os=>tF K0 o a.ob∧dC K0 l os
def aU:List (Option Ob)→List Nat→List (Option Ob)→List (Option Ob)
 | ob,k::K,a::l=>aU (ob.set k a) K l
 | ob,_,_=>ob
def bT:List Co→List Nat→List Co→List Co
 | cs,k::K,c::l=>bT (cs.set k c) K l
 | cs,_,_=>cs
def bE (K:List Nat):List (Option Ob):=K.map fun _=>none
def mZ (n:Nat) (g:Nat→FV) (K:List Nat):List Operand→List FV→Prop
 | [],aa=>aa=[]
 | _::_,[]=>False
 | o::os,a::aa=>pS K a=some (lk n g o)∧mZ n g K os aa
def Ns (x:Cx) (g:Nat→FV) (cf:Operand) (f:FuncId) (fst caps:List Tr):Prop:=∀ob cs ts W,RelC x g ob cs ts W→∃us0 us,Act.eval ⟨ts,[]⟩ cf=.func (.func f) us0.toArray us.toArray∧FRL W (x.fr W ob cs) fst us0∧FRL W (x.fr W ob cs) caps us
def Ie:Tr→FV
 | .a l=>.agg (l.map .t)
 | c=>.one (.t c)
def dT (caps:List Tr):List FV:=caps.map Ie
section
variable {x:Cx}{g g':Nat→FV}{ob ob':List (Option Ob)}{cs cs':List Co}{ts ts':Array Value}{W W':World}
theorem An (f:FuncId):Ns x g (.func f) f [] []:=fun _ _ _ _ _=>⟨[],[],rfl,by simp[FRL],by simp[FRL]⟩
theorem yI {N:Nat→Prop}:∀{l:List Tr}{us:List Value},FRL W N l us→ARL W N cs (l.map .t) us
 | [],us,h=>by simpa[FRL,ARL]using h
 | y::l,[],h=>by simp only[FRL]at h
 | y::l,u::us,h=>by
  simp only[FRL]at h
  simp only[List.map_cons,ARL,AR]
  exact⟨h.1,yI h.2⟩
theorem dD:∀{K:List Nat}{l:List (Option Ob)}{ob:List (Option Ob)},(aU ob K l).length=ob.length
 | [],l,ob=>by simp[aU]
 | k::K,[],ob=>by simp[aU]
 | k::K,a::l,ob=>by simp[aU,dD (K:=K)]
theorem fX:∀{K:List Nat}{l:List Co}{cs:List Co},(bT cs K l).length=cs.length
 | [],l,cs=>by simp[bT]
 | k::K,[],cs=>by simp[bT]
 | k::K,a::l,cs=>by simp[bT,fX (K:=K)]
theorem dO:∀{K:List Nat}{l:List (Option Ob)}{ob:List (Option Ob)}{j:Nat},j∉K→(aU ob K l)[j]? =ob[j]?
 | [],l,ob,j,_=>by simp[aU]
 | k::K,[],ob,j,_=>by simp[aU]
 | k::K,a::l,ob,j,h=>by
  simp only[List.mem_cons,not_or]at h
  simp only[aU]
  rw[dO h.2,List.getElem?_set_ne (fun e=>h.1 e.symm)]
theorem iF:∀{K:List Nat}{l:List Co}{cs:List Co}{j:Nat},j∉K→co (bT cs K l) j=co cs j
 | [],l,cs,j,_=>by simp[bT]
 | k::K,[],cs,j,_=>by simp[bT]
 | k::K,a::l,cs,j,h=>by
  simp only[List.mem_cons,not_or]at h
  simp only[bT]
  rw[iF h.2]
  unfold co
  rw[List.getElem?_set_ne (fun e=>h.1 e.symm)]
theorem fJ:∀{K:List Nat}{l:List (Option Ob)}{ob:List (Option Ob)}{i k:Nat},K.Nodup→l.length=K.length→K[i]? =some k→k<ob.length→(aU ob K l)[k]? =l[i]?
 | [],l,ob,i,k,_,_,h,_=>by simp at h
 | k0::K,[],ob,i,k,_,hl,_,_=>by simp at hl
 | k0::K,a::l,ob,0,k,hn,hl,h,hk=>by
  simp at h
  subst h
  have hn:=List.nodup_cons.1 hn
  simp only[aU]
  rw[dO hn.1,List.getElem?_set_self hk]
  rfl
 | k0::K,a::l,ob,i+1,k,hn,hl,h,hk=>by
  have hn:=List.nodup_cons.1 hn
  simp only[aU]
  exact fJ hn.2 (by simpa using hl) (by simpa using h) (by simpa using hk)
theorem yJ:∀{K:List Nat}{l:List Co}{cs:List Co}{i k:Nat},K.Nodup→l.length=K.length→K[i]? =some k→k<cs.length→co (bT cs K l) k=co l i
 | [],l,cs,i,k,_,_,h,_=>by simp at h
 | k0::K,[],cs,i,k,_,hl,_,_=>by simp at hl
 | k0::K,a::l,cs,0,k,hn,hl,h,hk=>by
  simp at h
  subst h
  have hn:=List.nodup_cons.1 hn
  simp only[bT]
  rw[iF hn.1]
  simp[co,List.getElem?_set_self hk]
 | k0::K,a::l,cs,i+1,k,hn,hl,h,hk=>by
  have hn:=List.nodup_cons.1 hn
  simp only[bT]
  rw[yJ hn.2 (by simpa using hl) (by simpa using h) (by simpa using hk)]
  simp[co]
theorem mL {K0:List Nat}:∀{K:List Nat}{l:List Lt},dQ ob K0 K l→l.length=K.length
 | [],l,h=>by
  simp only[dQ]at h
  simp[h]
 | k::K,[],h=>by simp only[dQ]at h
 | k::K,a::l,h=>by
  simp only[dQ]at h
  simp[mL h.2]
theorem eV {K0:List Nat}:∀{K:List Nat}{l:List Lt}{i k:Nat},dQ ob K0 K l→K[i]? =some k→∃(a:Lt) (l':List AV),l[i]? =some a∧renL K0 a.l=some l'∧ob[k]? =some (some ⟨a.t,a.z,l'⟩)
 | [],l,i,k,_,h=>by simp at h
 | k0::K,[],i,k,h,_=>by simp only[dQ]at h
 | k0::K,a::l,0,k,h,hk=>by
  simp only[dQ]at h
  simp at hk
  subst hk
  obtain⟨⟨l',h1,h2⟩,_⟩:=h
  exact⟨a,l',rfl,h1,bU h2⟩
 | k0::K,a::l,i+1,k,h,hk=>by
  simp only[dQ]at h
  exact eV (i:=i) h.2 (by simpa using hk)
theorem qR {K0:List Nat}:∀{l:List Lt}{os:List (Option Ob)},dC K0 l os→os.length=l.length
 | [],l,h=>by
  simp only[dC]at h
  simp[h]
 | k::K,[],h=>by simp only[dC]at h
 | k::K,a::l,h=>by
  simp only[dC]at h
  simp[qR h.2]
theorem mM {K0:List Nat}:∀{l:List Lt}{os:List (Option Ob)}{i:Nat}{a:Lt},dC K0 l os→l[i]? =some a→∃l',renL K0 a.l=some l'∧os[i]? =some (some ⟨a.t,a.z,l'⟩)
 | [],_,_,_,_,h=>by simp at h
 | b::l,[],_,_,h,_=>by simp only[dC]at h
 | b::l,o::os,0,a,h,ha=>by
  simp only[dC]at h
  simp at ha
  subst ha
  obtain⟨⟨l',h1,h2⟩,_⟩:=h
  exact⟨l',h1,by rw[h2];rfl⟩
 | b::l,o::os,i+1,a,h,ha=>by
  simp only[dC]at h
  obtain⟨l',h1,h2⟩:=mM (i:=i) h.2 (by simpa using ha)
  exact⟨l',h1,by simpa using h2⟩
def vO (K:List Nat) (cl cs2:List Co):Prop:=∀i k,K[i]? =some k→k<cs2.length∧co cs2 k=co cl i
mutual
theorem If {K:List Nat}{N:Nat→Prop}{cl cs2:List Co}(hc:vO K cl cs2):∀(a a':AV) (u:Value),dK K a=some a'→AR W N cl a u→AR W N cs2 a' u
 | .t y,a',u,h,hr=>by
  simp only[dK,Option.some.injEq]at h
  subst h
  simpa only[AR]using hr
 | .sl k o n,a',u,h,hr=>by
  simp only[dK]at h
  split at h
  ·rename_i t ht
   simp only[Option.some.injEq]at h
   subst h
   simp only[AR]at hr⊢
   rw[(hc k t ht).2]
   exact⟨(hc k t ht).1,hr.2⟩
  cases h
 | .pt k o,a',u,h,hr=>by
  simp only[dK]at h
  split at h
  ·rename_i t ht
   simp only[Option.some.injEq]at h
   subst h
   simp only[AR]at hr⊢
   rw[(hc k t ht).2]
   exact hr
  cases h
 | .ef l o,a',u,h,hr=>by
  simp only[dK,Option.some.injEq]at h
  subst h
  simpa only[AR]using hr
 | .fn f a b,a',u,h,hr=>by
  simp only[dK]at h
  split at h
  ·rename_i a1 b1 h1 h2
   simp only[Option.some.injEq]at h
   subst h
   simp only[AR]at hr⊢
   obtain⟨us,vs,e,r1,r2⟩:=hr
   exact⟨us,vs,e,ARL_to hc a a1 us h1 r1,ARL_to hc b b1 vs h2 r2⟩
  cases h
theorem ARL_to {K:List Nat}{N:Nat→Prop}{cl cs2:List Co}(hc:vO K cl cs2):∀(l l':List AV) (us:List Value),renL K l=some l'→ARL W N cl l us→ARL W N cs2 l' us
 | [],l',us,h,hr=>by
  simp only[renL,Option.some.injEq]at h
  subst h
  simpa only[ARL]using hr
 | a::l,l',us,h,hr=>by
  simp only[renL]at h
  split at h
  ·rename_i a1 l1 h1 h2
   simp only[Option.some.injEq]at h
   subst h
   cases us with
   | nil=>simp only[ARL]at hr
   | cons u us=>
    simp only[ARL]at hr⊢
    exact⟨If hc a a1 u h1 hr.1,ARL_to hc l l1 us h2 hr.2⟩
  cases h
end
theorem Nt {N:Nat→Prop}{a:AV}{u:Value}(h:∀z,a≠.t z):CR W N cs a (.w u)↔AR W N cs a u:=by
 cases a with
 | t z=>exact absurd rfl (h z)
 | _=>simp only[CR]
theorem Nu {K:List Nat}{a a':AV}(h:dK K a=some a') (hn:∀z,a≠.t z):∀z,a'≠.t z:=by
 intro z e
 subst e
 cases a with
 | t z=>exact hn z rfl
 | ef l o=>simp[dK]at h
 | _=>
  simp only[dK]at h
  split at h <;> simp at h
theorem Rl {K:List Nat}{N:Nat→Prop}{cl cs2:List Co}(hc:vO K cl cs2){a a':AV}{y:VT}(h:dK K a=some a') (hr:CR W N cl a y):CR W N cs2 a' y:=by
 by_cases ht:∃z,a=.t z
 ·obtain⟨z,rfl⟩:=ht
  simp only[dK,Option.some.injEq]at h
  subst h
  simpa only[CR]using hr
 have hn:∀z,a≠.t z:=fun z e=>ht ⟨z,e⟩
 cases y with
 | w u=>exact(Nt (Nu h hn)).2 (If hc _ _ u h ((Nt hn).1 hr))
 | _=>
  cases a with
  | t z=>exact absurd rfl (hn z)
  | _=>simp only[CR]at hr
theorem Cn {K:List Nat}{N:Nat→Prop}{cl cs2:List Co}(hc:vO K cl cs2):∀{l l':List AV}{ys:List VT},renL K l=some l'→aN W N cl l ys→aN W N cs2 l' ys
 | [],l',ys,h,hr=>by
  simp only[renL,Option.some.injEq]at h
  subst h
  simpa only[aN]using hr
 | a::l,l',ys,h,hr=>by
  simp only[renL]at h
  split at h
  ·rename_i a1 l1 h1 h2
   simp only[Option.some.injEq]at h
   subst h
   cases ys with
   | nil=>simp only[aN]at hr
   | cons y ys=>
    simp only[aN]at hr⊢
    exact⟨Rl hc h1 hr.1,Cn hc h2 hr.2⟩
  cases h
theorem pZ {K:List Nat}{l l':List AV}(h:renL K l=some l'):l=[]↔l'=[]:=by
 cases l with
 | nil=>
  simp only[renL,Option.some.injEq]at h
  simp[←h]
 | cons a l=>
  simp only[renL]at h
  split at h
  ·simp only[Option.some.injEq]at h
   simp[←h]
  cases h
theorem oW (b:Nat):∀{K:List Nat}{l:List (Option Ob)}{lc:List Co}{ob:List (Option Ob)}{cs:List Co},K.Nodup→l.length=K.length→lc.length=K.length→ob.length=cs.length→(∀k∈K,k<ob.length)→
  (bL (aU ob K l) (bT cs K lc)).count b=(bL (aU ob K (bE K)) cs).count b+((aA l lc).flatMap Res.S).count b
 | [],l,lc,ob,cs,_,h1,h2,_,_=>by
  obtain rfl:=List.eq_nil_of_length_eq_zero h1
  obtain rfl:=List.eq_nil_of_length_eq_zero h2
  simp[aU,bT,bE,aA]
 | k::K,[],lc,ob,cs,_,h1,h2,_,_=>by simp at h1
 | k::K,a::l,[],ob,cs,_,h1,h2,_,_=>by simp at h2
 | k::K,a::l,c::lc,ob,cs,hn,h1,h2,h3,h4=>by
  have hn':=List.nodup_cons.1 hn
  have hk:=h4 k (by simp)
  have ih1:=oW b (K:=K) (l:=l) (lc:=lc) (ob:=ob.set k a) (cs:=cs.set k c) hn'.2 (by simpa using h1) (by simpa using h2) (by simpa using h3) (fun j hj=>by simpa using h4 j (List.mem_cons_of_mem _ hj))
  have e1:bE (k::K)=none::bE K:=rfl
  simp only[aU,bT,e1,aA,List.zipWith_cons_cons,List.flatMap_cons,List.count_append]
  unfold aA at ih1
  rw[ih1]
  -- the k-th of the others
  have e2:aU (ob.set k none) K (bE K)=(aU (ob.set k a) K (bE K)).set k none:=by
   apply List.ext_getElem?
   intro j
   by_cases hj:j∈K
   ·obtain⟨i,hi⟩:=List.mem_iff_getElem?.1 hj
    have hkj:k≠j:=fun e=>hn'.1 (e▸hj)
    rw[List.getElem?_set_ne hkj,fJ hn'.2 (by simp[bE]) hi (by simpa using h4 j (List.mem_cons_of_mem _ hj)),fJ hn'.2 (by simp[bE]) hi (by simpa using h4 j (List.mem_cons_of_mem _ hj))]
   rw[dO hj]
   by_cases hkj:k=j
   ·subst hkj
    rw[List.getElem?_set_self hk,List.getElem?_set_self (by rw[dD];simpa using hk)]
   rw[List.getElem?_set_ne hkj,List.getElem?_set_ne hkj,dO hj,List.getElem?_set_ne hkj]
  have e3:(aU (ob.set k a) K (bE K))[k]? =some a:=by rw[dO hn'.1,List.getElem?_set_self hk]
  have hck:co (cs.set k c) k=c:=by simp[co,List.getElem?_set_self (show k<cs.length by omega)]
  have hl0:(aU (ob.set k a) K (bE K)).length=(cs.set k c).length:=by rw[dD];simpa using h3
  have h5:=sA (r':=aC none (co cs k)) (aM hl0 e3) b
  rw[hck]at h5
  have e4:(aA (aU (ob.set k a) K (bE K)) (cs.set k c)).set k (aC none (co cs k))=aA (aU (ob.set k none) K (bE K)) cs:=by
   rw[e2,←iD]
   congr 1
   rw[List.set_set,lF (by omega)]
  have h6:(aC none (co cs k)).S=[]:=by cases hb:(co cs k).b <;> simp[aC]
  rw[e4,h6,List.count_nil]at h5
  unfold bL aA
  unfold aA at h5
  omega
theorem fS {K:List Nat}(hn:K.Nodup) (hl:ob.length=cs.length) (hK:∀k∈K,k<ob.length){r:Res}(h:r∈aA (aU ob K (bE K)) cs):r∈aA ob cs∨r.S=[]∧∀W,r.φ W:=by
 obtain⟨j,hj⟩:=List.mem_iff_getElem?.1 h
 by_cases hjK:j∈K
 ·obtain⟨i,hi⟩:=List.mem_iff_getElem?.1 hjK
  have h1:=fJ (l:=bE K) hn (by simp[bE]) hi (hK j hjK)
  have h2:(bE K)[i]? =some none:=by simp[bE,hi]
  rw[h2]at h1
  rw[aM (by rw[dD];exact hl) h1]at hj
  injection hj with hj
  subst hj
  refine .inr ⟨?_,fun W=>?_⟩ <;> cases hb:(co cs j).b <;> simp[aC]
 left
 have h1:=dO (l:=bE K) (ob:=ob) hjK
 cases h2:ob[j]? with
 | none=>
  rw[h2]at h1
  have:¬j<(aU ob K (bE K)).length:=fun h=>by simp[h]at h1
  have h3:=(List.getElem?_eq_some_iff.1 hj).1
  rw[dA (by rw[dD];exact hl)]at h3
  rw[dD]at this
  omega
 | some o=>
  rw[h2]at h1
  rw[aM (by rw[dD];exact hl) h1]at hj
  injection hj with hj
  subst hj
  exact List.mem_of_getElem? (aM hl h2)
theorem vP {K:List Nat}{N':Nat→Prop}(hR:RelC x g ob cs ts W) (hN:∀b,x.fr W ob cs b→N' b):∀{os:List Operand}{aa:List FV},mZ x.n g K os aa→bP W N' (K.map (co cs)) aa (os.map (Act.eval ⟨ts,[]⟩))
 | [],aa,h=>by
  simp only[mZ]at h
  simp[h,bP]
 | o::os,[],h=>by simp only[mZ]at h
 | o::os,a::aa,h=>by
  simp only[mZ]at h
  simp only[List.map_cons,bP]
  refine⟨?_,vP hR hN h.2⟩
  have:=xU hN h.1 (hR.lk o)
  cases a with
  | tup l=>simp[pS]at h
  | _=>exact this
theorem lI {N:Nat→Prop}:∀{l l':List FV}{us us':List Value},bP W N cs l us→bP W N cs l' us'→bP W N cs (l++l') (us++us')
 | [],l',us,us',h,h'=>by
  simp only[bP]at h
  subst h
  simpa using h'
 | a::l,l',u::us,us',h,h'=>by
  simp only[bP]at h
  simp only[List.cons_append,bP]
  exact⟨h.1,lI h.2 h'⟩
 | _::_,_,[],_,h,_=>by simp only[bP]at h
theorem jV {N N':Nat→Prop}(hN:∀b,N b→N' b):∀{caps:List Tr}{us:List Value},FRL W N caps us→bP W N' cs (dT caps) us
 | [],us,h=>by
  simp only[FRL]at h
  simp[h,dT,bP]
 | c::caps,[],h=>by simp only[FRL]at h
 | c::caps,u::us,h=>by
  simp only[FRL]at h
  simp only[dT,List.map_cons,bP]
  refine⟨?_,jV hN h.2⟩
  have h1:=eG (W':=W) (fun _ _=>rfl) hN _ _ h.1
  cases c with
  | a l=>
   simp only[FR]at h1
   obtain⟨us,e,h2⟩:=h1
   exact⟨us,e,yI h2⟩
  | _=>simpa only[Ie,aX,AR]using h1
theorem Ao {fresh:Bool}{f:FuncId}{args:List FV}{R:List Lt→FV→Prop}{lent:List Lt}{K:List Nat}{os:List Operand}{fst caps:List Tr}{fus cus:List Value}(hS:aE fresh x.P f lent (dT fst++args++dT caps) R) (hK:dQ ob K K lent) (hnd:K.Nodup) (ha:mZ x.n g K os args) (hfst:FRL W (x.fr W ob cs) fst fus) (hcap:FRL W (x.fr W ob cs) caps cus) (hR:RelC x g ob cs ts W):
  Calls x.P f (fus++os.map (Act.eval ⟨ts,[]⟩)++cus).toArray W (fun e W'=>∃v lent' r ys cl N2,e=.returned v∧R lent' r∧lent'.length=K.length∧cl.length=K.length∧RO W' N2 cl r v ys∧VT.okL W' ys∧(VT.fpL ys).Nodup∧
   ∀(ok:List (Option Ob)),dC K lent' ok→∀(oz:List Ob) (csn:List Co),csn.length=oz.length→(∀b,((aA (oz.map some) csn).flatMap Res.S).count b≤(VT.fpL ys).count b)→(∀r∈aA (oz.map some) csn,r.φ W')→
    (∀b,N2 b→x.fr W' (aU ob K ok++oz.map some) (bT cs K cl++csn) b)∧
    ((∀i o,oz[i]? =some o→aN W' (x.fr W' (aU ob K ok++oz.map some) (bT cs K cl++csn)) (bT cs K cl++csn) o.l (co csn i).l∧((co csn i).b=none→o.l=[]∧o.z≠0))→
     RelC x g (aU ob K ok++oz.map some) (bT cs K cl++csn) ts W'∧∀d,Aft K d ob cs ts W (aU ob K ok++oz.map some) (bT cs K cl++csn) ts W')):=by
 have hlen:=hR.len
 have hll:=mL hK
 have hKl:∀k∈K,k<ob.length:=fun k hk=>by
  obtain⟨i,hi⟩:=List.mem_iff_getElem?.1 hk
  obtain⟨a,l',_,_,h2⟩:=eV hK hi
  exact(List.getElem?_eq_some_iff.1 h2).1
 have hlobs:(aF lent).length=K.length:=by rw[eU,hll]
 have hput0:aA (aU ob K (aF lent)) cs=aA ob cs:=by
  have hl0:(aU ob K (aF lent)).length=cs.length:=by rw[dD];exact hlen
  apply List.ext_getElem?
  intro j
  by_cases hjl:j<ob.length
  ·by_cases hj:j∈K
   ·obtain⟨i,hi⟩:=List.mem_iff_getElem?.1 hj
    obtain⟨a,l',h1,_,h2⟩:=eV hK hi
    have h3:=fJ hnd hlobs hi hjl
    rw[dH,h1]at h3
    rw[aM hl0 h3,aM hlen h2]
    exact congrArg some (iT _ _)
   have h3:=dO (l:=aF lent) (ob:=ob) hj
   rw[List.getElem?_eq_getElem hjl]at h3
   rw[aM hl0 h3,aM hlen (List.getElem?_eq_getElem hjl)]
  rw[List.getElem?_eq_none (by rw[dA hl0];omega),List.getElem?_eq_none (by rw[dA hlen];omega)]
 have hputc:bT cs K (K.map (co cs))=cs:=by
  have key:∀(K:List Nat),(∀k∈K,k<cs.length)→bT cs K (K.map (co cs))=cs:=by
   intro K
   induction K with
   | nil=>intro _;rfl
   | cons k K ih=>
    intro h
    simp only[List.map_cons,bT]
    rw[lF (h k (by simp))]
    exact ih fun j hj=>h j (List.mem_cons_of_mem _ hj)
  exact key K fun k hk=>by rw[←hlen];exact hKl k hk
 have hcnt0:=fun b=>oW b (l:=aF lent) (lc:=K.map (co cs)) (cs:=cs) hnd hlobs (by simp) hlen hKl
 unfold bL at hcnt0
 rw[hputc,hput0]at hcnt0
 have hfr0:∀b,x.fr W ob cs b→gI W (aA (aF lent) (K.map (co cs))) b:=fun b hb=>And.intro hb.1.1 fun hm=>hb.1.2 (by
  have h1:=List.count_pos_iff.2 hm
  have h2:=hcnt0 b
  exact List.count_pos_iff.1 (show 0<((aA ob cs).flatMap Res.S).count b by omega))
 have hgetL:∀i k,K[i]? =some k→∃(a:Lt) (l':List AV),lent[i]? =some a∧renL K a.l=some l'∧ob[k]? =some (some (⟨a.t,a.z,l'⟩:Ob)):=fun i k hi=>eV hK hi
 have hφ0:∀r∈aA (aF lent) (K.map (co cs)),r.φ W:=fun r hr=>by
  obtain⟨i,hi⟩:=List.mem_iff_getElem?.1 hr
  have hil:=(List.getElem?_eq_some_iff.1 hi).1
  have hil2:i<K.length:=by
   rw[dA (by simp[hlobs])]at hil
   simpa using hil
  obtain⟨a,l',h1,_,h2⟩:=hgetL i K[i] (List.getElem?_eq_getElem hil2)
  have e1:(aF lent)[i]? =some (some a.ob):=by rw[dH,h1];rfl
  rw[aM (by simp[hlobs]) e1,fC (List.getElem?_eq_getElem hil2)]at hi
  injection hi with hi
  subst hi
  rw[show aC (some a.ob) (co cs K[i])=aC (some ⟨a.t,a.z,l'⟩) (co cs K[i]) from iT _ _]
  exact hR.res h2
 have h1:Loc x.M x.w W (aA (aF lent) (K.map (co cs))++aA (aU ob K (bE K)) cs) []:=(hR.2.pickS []).cut (fun b=>by
  rw[List.flatMap_append,List.count_append]
  have:=hcnt0 b
  omega) (fun r hr=>by
  rcases List.mem_append.1 hr with hr | hr
  ·exact hφ0 r hr
  rcases fS hnd hlen hKl hr with hr | hr
  ·exact hR.2.res r hr
  exact hr.2 W)
 have h2:Loc ((aA (aF lent) (K.map (co cs))).flatMap Res.S) W W (aA (aF lent) (K.map (co cs))) [(Cf lent (K.map (co cs)) (dT fst++args++dT caps) (fus++os.map (Act.eval ⟨ts,[]⟩)++cus)).on (x.fr W ob cs)]:=by
  refine h1.focus.read _ ⟨⟨by simp[hlobs],fun k o hk=>?_⟩,lI (lI (jV (fun b hb=>⟨hfr0 b hb,hb⟩) hfst) (vP hR (fun b hb=>⟨hfr0 b hb,hb⟩) ha)) (jV (fun b hb=>⟨hfr0 b hb,hb⟩) hcap)⟩
  rw[dH]at hk
  cases hq:lent[k]? with
  | none=>rw[hq]at hk;cases hk
  | some a=>
   rw[hq]at hk
   simp at hk
   subst hk
   have hkK:k<K.length:=by rw[←hll];exact(List.getElem?_eq_some_iff.1 hq).1
   obtain⟨a',l',q1,q0,q2⟩:=hgetL k K[k] (List.getElem?_eq_getElem hkK)
   rw[hq]at q1
   injection q1 with q1
   subst q1
   have q3:=hR.obs.2 _ _ q2
   rw[fC (List.getElem?_eq_getElem hkK)]
   exact⟨oU (fun b hb=>⟨hfr0 b hb,hb⟩) q0 q3.1,fun h=>⟨(pZ q0).2 (q3.2 h).1,(q3.2 h).2⟩⟩
 refine(hS _ W _ _ h2).mono fun e W' hE=>?_
 obtain⟨v,lent',cl,r,ys,rfl,hr,hl',hty,hcl,hsame,h3⟩:=hE
 have h4:=Loc.turn h1 h3
 have hsh:=Sh.off (h3.sh 0 rfl)
 have hcl':cl.length=K.length:=by simpa using hcl
 have hlK:lent'.length=K.length:=by rw[hl',hll]
 refine⟨v,lent',r,ys,cl,_,rfl,hr,hlK,hcl',hsh.2,h3.res (cW ys) (by simp),?_,fun ok hbk oz csn hlz hcz hφz=>?_⟩
 ·have:=h3.nd
  rw[List.flatMap_append,List.nodup_append]at this
  simpa[cW]using this.2.1
 have hlob':ok.length=K.length:=by rw[qR hbk,hlK]
 have hrk:aA ok cl=aA (aF lent') cl:=by
  apply List.ext_getElem?
  intro j
  by_cases hj:j<lent'.length
  ·obtain⟨l',q1,q2⟩:=mM hbk (List.getElem?_eq_getElem hj)
   rw[aM (by rw[hlob',hcl']) q2,aM (ob:=aF lent') (by rw[eU,hlK,hcl']) (o:=some (lent'[j]).ob) (by rw[dH,List.getElem?_eq_getElem hj];rfl)]
   exact congrArg some (iT _ _)
  rw[List.getElem?_eq_none (by rw[dA (by rw[hlob',hcl'])];omega),List.getElem?_eq_none (by rw[dA (by rw[eU,hlK,hcl'])];omega)]
 have hlen2:(aU ob K ok).length=(bT cs K cl).length:=by rw[dD,fX];exact hlen
 have hrs:aA (aU ob K ok++oz.map some) (bT cs K cl++csn)=aA (aU ob K ok) (bT cs K cl)++aA (oz.map some) csn:=by
  unfold aA
  rw[List.zipWith_append hlen2]
 have hcnt2:∀b,(bL (aU ob K ok++oz.map some) (bT cs K cl++csn)).count b≤(((aA (aF lent') cl++[cW ys])++aA (aU ob K (bE K)) cs).flatMap Res.S).count b:=fun b=>by
  have q1:=oW b (l:=ok) (lc:=cl) (cs:=cs) hnd hlob' hcl' hlen hKl
  rw[hrk]at q1
  have q2:=hcz b
  unfold bL at q1⊢
  rw[hrs,List.flatMap_append,List.count_append,List.flatMap_append,List.count_append,List.flatMap_append,List.count_append,List.flatMap_cons,List.flatMap_nil,List.append_nil]
  have q3:(cW ys).S=VT.fpL ys:=rfl
  rw[q3]
  omega
 have hin2:∀b,b∈bL (aU ob K ok++oz.map some) (bT cs K cl++csn)→b∈((aA (aF lent') cl++[cW ys])++aA (aU ob K (bE K)) cs).flatMap Res.S:=fun b hb=>List.count_pos_iff.1 (Nat.lt_of_lt_of_le (List.count_pos_iff.2 hb) (hcnt2 b))
 have hrest:∀b,b∈(aA (aU ob K (bE K)) cs).flatMap Res.S→b∈bL ob cs:=fun b hb=>by
  obtain⟨r,hr,hb⟩:=List.mem_flatMap.1 hb
  rcases fS hnd hlen hKl hr with hr | hr
  ·exact List.mem_flatMap.2 ⟨r,hr,hb⟩
  rw[hr.1]at hb
  cases hb
 have hlentS:∀b,b∈(aA (aF lent) (K.map (co cs))).flatMap Res.S→b∈bL ob cs:=fun b hb=>by
  have q1:=List.count_pos_iff.2 hb
  have q2:=hcnt0 b
  exact List.count_pos_iff.1 (show 0<((aA ob cs).flatMap Res.S).count b by omega)
 have hfree:∀b,gI W' (aA (aF lent') cl++[cW ys]) b→(x.fr W ob cs b∨b∈(aA (aF lent) (K.map (co cs))).flatMap Res.S∨W.heap.size≤b)→x.fr W' (aU ob K ok++oz.map some) (bT cs K cl++csn) b:=fun b hb hb'=>by
  refine⟨⟨hb.1,fun hm=>?_⟩,?_⟩
  ·have hm:=hin2 b hm
   rw[List.flatMap_append,List.mem_append]at hm
   rcases hm with hm | hm
   ·exact hb.2 hm
   have hm2:=hrest b hm
   rcases hb' with hb' | hb' | hb'
   ·exact hb'.1.2 hm2
   ·have q1:=hcnt0 b
    have q2:=List.nodup_iff_count.1 hR.2.nd b
    have q3:=List.count_pos_iff.2 hb'
    have q4:=List.count_pos_iff.2 hm
    unfold bL at q1
    omega
   have:=(hR.2.blk b hm2).2
   omega
  rcases hb' with hb' | hb' | hb'
  ·exact hb'.2
  ·exact .inr (hR.2.blk b (hlentS b hb')).1
  exact .inr (.inr (Nat.le_trans hR.2.chg.size hb'))
 have hsize:W.heap.size≤W'.heap.size:=h3.chg.size
 have hfr:∀b,x.fr W ob cs b→x.fr W' (aU ob K ok++oz.map some) (bT cs K cl++csn) b:=fun b hb=>by
  refine hfree b ⟨Nat.lt_of_lt_of_le hb.1.1 hsize,fun hm=>?_⟩ (.inl hb)
  have q1:=h3.blk b hm
  rcases q1.1 with q1 | q1
  ·exact hb.1.2 (hlentS b q1)
  have:=hb.1.1
  omega
 have hkeep:∀b,x.fr W ob cs b→W'.heap[b]? =W.heap[b]? :=fun b hb=>h3.chg.block b hb.1.1 (fun hm=>hb.1.2 (hlentS b hm))
 refine⟨fun b hb=>hfree b hb.2.1 hb.2.2,fun hoz=>?_⟩
 have hcoK:∀i k,K[i]? =some k→co (bT cs K cl) k=co cl i:=fun i k hi=>yJ hnd hcl' hi (by rw[←hlen];exact hKl k (List.mem_of_getElem? hi))
 have hsame2:Same cs (bT cs K cl):=⟨by rw[fX];exact Nat.le_refl _,fun k hk=>by
  by_cases hkK:k∈K
  ·obtain⟨i,hi⟩:=List.mem_iff_getElem?.1 hkK
   have:=hsame.2 i (by simpa using(List.getElem?_eq_some_iff.1 hi).1)
   rw[fC hi]at this
   rw[hcoK i k hi]
   exact this
  rw[iF hkK]
  exact⟨rfl,rfl⟩⟩
 have happ:∀{k},k<(bT cs K cl).length→co (bT cs K cl++csn) k=co (bT cs K cl) k:=fun hk=>by simp[co,List.getElem?_append_left hk]
 have hsame3:Same cs (bT cs K cl++csn):=hsame2.trans ⟨by simp,fun k hk=>by rw[happ hk];exact⟨rfl,rfl⟩⟩
 have hLf:Loc x.M x.w W' (aA (aU ob K ok++oz.map some) (bT cs K cl++csn)) []:=h4.cut hcnt2 (fun r hr=>by
  rw[hrs]at hr
  rcases List.mem_append.1 hr with hr | hr
  ·obtain⟨j,hj⟩:=List.mem_iff_getElem?.1 hr
   have hjl:=(List.getElem?_eq_some_iff.1 hj).1
   rw[dA hlen2,fX,←hlen]at hjl
   by_cases hjK:j∈K
   ·obtain⟨i,hi⟩:=List.mem_iff_getElem?.1 hjK
    have q1:=fJ hnd hlob' hi (hKl j hjK)
    have q2:i<ok.length:=by rw[hlob'];exact(List.getElem?_eq_some_iff.1 hi).1
    rw[List.getElem?_eq_getElem q2]at q1
    rw[aM hlen2 q1,hcoK i j hi]at hj
    injection hj with hj
    subst hj
    refine h3.res _ (List.mem_append_left _ (by rw[←hrk];exact List.mem_of_getElem? (aM (by rw[hlob',hcl']) (List.getElem?_eq_getElem q2))))
   have q1:(aU ob K ok)[j]? =ob[j]? :=dO hjK
   rw[List.getElem?_eq_getElem hjl]at q1
   rw[aM hlen2 q1,iF hjK]at hj
   injection hj with hj
   subst hj
   have q2:(aU ob K (bE K))[j]? =ob[j]? :=dO hjK
   rw[List.getElem?_eq_getElem hjl]at q2
   exact h4.res _ (List.mem_append_right _ (List.mem_of_getElem? (aM (by rw[dD];exact hlen) q2)))
  exact hφz r hr)
 refine⟨.of hR.1 hLf ⟨by rw[List.length_append,List.length_append,hlen2,List.length_map,hlz],fun k o hk=>?_⟩ (fun i hi=>?_) (hR.3.trans hsame3),fun d=>⟨hsame3,fun k hk hkc=>?_,hsize,fun b hlt hb=>?_,fun b hb=>?_,fun _ _=>rfl⟩⟩
 ·rcases Nat.lt_or_ge k (aU ob K ok).length with hlt | hge
  ·rw[List.getElem?_append_left hlt]at hk
   rw[happ (by rw[←hlen2];exact hlt)]
   rw[dD]at hlt
   by_cases hkK:k∈K
   ·obtain⟨i,hi⟩:=List.mem_iff_getElem?.1 hkK
    rw[fJ hnd hlob' hi hlt]at hk
    have hil:i<lent'.length:=by rw[hlK];exact(List.getElem?_eq_some_iff.1 hi).1
    obtain⟨l',q0,q2⟩:=mM hbk (List.getElem?_eq_getElem hil)
    rw[q2]at hk
    injection hk with hk
    injection hk with hk
    subst hk
    have q1:=hsh.1.2 i (lent'[i]).ob (by rw[dH,List.getElem?_eq_getElem hil];rfl)
    rw[hcoK i k hi]
    have q3:vO K cl (bT cs K cl++csn):=fun i k hi=>by
     have hkl:=hKl k (List.mem_of_getElem? hi)
     have hkp:k<(bT cs K cl).length:=by rw[fX,←hlen];exact hkl
     exact⟨by rw[List.length_append];omega,by rw[happ hkp,hcoK i k hi]⟩
    exact⟨bR (fun _ _=>rfl) (fun b hb=>hfree b hb.2.1 hb.2.2) .refl _ _ (Cn q3 q0 q1.1),fun h=>⟨(pZ q0).1 (q1.2 h).1,(q1.2 h).2⟩⟩
   rw[dO hkK]at hk
   rw[iF hkK]
   have q1:=hR.obs.2 k o hk
   exact⟨bR hkeep hfr hsame3 _ _ q1.1,q1.2⟩
  rw[List.getElem?_append_right hge]at hk
  have ho:oz[k-(aU ob K ok).length]? =some o:=by
   rw[List.getElem?_map]at hk
   cases hq:oz[k-(aU ob K ok).length]? with
   | none=>rw[hq]at hk;cases hk
   | some o'=>
    rw[hq]at hk
    simp at hk
    rw[hk]
  have q1:=hoz _ o ho
  have e:co (bT cs K cl++csn) k=co csn (k-(aU ob K ok).length):=by
   unfold co
   rw[List.getElem?_append_right (by rw[←hlen2];exact hge),hlen2]
  rw[e]
  exact q1
 ·obtain⟨u,q1,q2⟩:=hR.fv hi
  exact⟨u,q1,cP hkeep hfr hsame3 _ _ q2⟩
 ·rw[happ (by rw[fX];exact hkc),iF hk]
 ·refine h3.chg.block b hlt fun hm=>?_
  obtain⟨r,hr,hbr⟩:=List.mem_flatMap.1 hm
  obtain⟨i,hi⟩:=List.mem_iff_getElem?.1 hr
  have hil:=(List.getElem?_eq_some_iff.1 hi).1
  have hil2:i<K.length:=by
   rw[dA (by simp[hlobs])]at hil
   simpa using hil
  obtain⟨a,l',q1,_,q2⟩:=hgetL i K[i] (List.getElem?_eq_getElem hil2)
  have e1:(aF lent)[i]? =some (some a.ob):=by rw[dH,q1];rfl
  rw[aM (by simp[hlobs]) e1,fC (List.getElem?_eq_getElem hil2)]at hi
  injection hi with hi
  subst hi
  rw[show aC (some a.ob) (co cs K[i])=aC (some ⟨a.t,a.z,l'⟩) (co cs K[i]) from iT _ _]at hbr
  exact hb K[i] (List.getElem_mem hil2) _ q2 hbr
 have q1:=hin2 b hb
 rw[List.flatMap_append,List.mem_append]at q1
 rcases q1 with q1 | q1
 ·rcases(h3.blk b q1).1 with q2 | q2
  ·exact .inl (hlentS b q2)
  exact .inr q2
 exact .inl (hrest b q1)
end
theorem vQ {k:Nat}{a:AV}(h:(sF k a).isSome=true):∃y,a=.t y:=by
 cases a with
 | t y=>exact⟨y,rfl⟩
 | _=>simp[sF]at h
theorem vR {W:World}{N:Nat→Prop}{cs:List Co}:∀{l:List AV}{k:Nat}{r:List AV×List Ob}{ys:List VT},jB k l=some r→aN W N cs l ys→aN W N [] l ys
 | [],_,_,ys,_,h=>by simpa[aN]using h
 | a::l,k,r,[],_,h=>by simp only[aN]at h
 | a::l,k,r,y::ys,hb,h=>by
  simp only[aN]at h⊢
  unfold jB at hb
  split at hb
  ·rename_i a' ha
   split at hb
   ·rename_i l' os hl
    obtain⟨z,rfl⟩:=vQ (k:=k) (by rw[ha];rfl)
    exact⟨h.1,vR hl h.2⟩
   cases hb
  ·rename_i a' o r' ha
   split at hb
   ·rename_i l' os hl
    obtain⟨z,rfl⟩:=vQ (k:=k) (by rw[ha];rfl)
    exact⟨h.1,vR hl h.2⟩
   cases hb
  cases hb
theorem vS {W:World}{N:Nat→Prop}{cs:List Co}{k:Nat}{r:FV}{b:FV×List Ob}{u:Value}{ys:List VT}(hb:nZ k r=some b) (h:mX W N cs r u ys):mX W N [] r u ys:=by
 cases r with
 | any=>exact h.elim
 | tup l=>exact h.elim
 | one a=>
  unfold nZ at hb
  dsimp only at hb
  split at hb
  ·rename_i a' os ha
   obtain⟨z,rfl⟩:=vQ (k:=k) (by rw[ha];rfl)
   exact h
  cases hb
 | agg l=>
  unfold nZ at hb
  dsimp only at hb
  split at hb
  ·rename_i l' os hl
   exact⟨h.1,vR hl h.2⟩
  cases hb
theorem Cp {W:World}{N:Nat→Prop}{cs:List Co}:∀{l:List FV}{k:Nat}{b:List FV×List Ob}{us:List Value}{ys:List VT},pY k l=some b→nQ W N cs l us ys→nQ W N [] l us ys
 | [],_,_,us,ys,_,h=>h
 | a::l,k,b,us,ys,hb,⟨v,vs,y1,y2,h1,h2,h3,h4⟩=>by
  unfold pY at hb
  split at hb
  ·rename_i a' os ha
   split at hb
   ·rename_i l' os' hl
    exact⟨v,vs,y1,y2,h1,h2,vS ha h3,Cp hl h4⟩
   cases hb
  cases hb
theorem Ig {W:World}{N:Nat→Prop}{cs:List Co}{k:Nat}{r:FV}{b:FV×List Ob}{u:Value}{ys:List VT}(hb:iV k r=some b) (h:RO W N cs r u ys):RO W N [] r u ys:=by
 cases r with
 | tup l=>
  obtain⟨vs,e,h⟩:=h
  unfold iV at hb
  dsimp only at hb
  split at hb
  ·rename_i l' os hl
   exact⟨vs,e,Cp hl h⟩
  cases hb
 | any=>exact h.elim
 | one a=>exact vS (r:=.one a) hb h
 | agg l=>exact vS (r:=.agg l) hb h
section
variable {x:Cx}{g g':Nat→FV}{ob ob':List (Option Ob)}{cs cs':List Co}{ts ts':Array Value}{W W':World}{T:List (Nat×TI)}{Q:Post}{ops:Array Oper}{rest:List Oper}{d:Nat}{op:Op}{ty:TypeId}{pos:String}{af:Array Edge}{gd:Option (Nat×Bool)}
theorem tO {cf:Operand}{f:FuncId}{us0 us:List Value}{aa:Array Operand}{ats:Array TypeId}(hf:CallOk x.P f) (e0:Act.eval ⟨ts,[]⟩ cf=.func (.func f) us0.toArray us.toArray):
  (execOp (Act.eval ⟨ts,[]⟩) ⟨some d,.call ⟨.value cf,aa,ats⟩,ty,pos,af,gd⟩).run x.P W=.ok (.enter f (us0++aa.toList.map (Act.eval ⟨ts,[]⟩)++us).toArray) W:=by
 obtain⟨fn,c,h1,h2,h3⟩:=hf
 have e1:aa.map (Act.eval ⟨ts,[]⟩)=(aa.toList.map (Act.eval ⟨ts,[]⟩)).toArray:=by apply Array.ext';simp only[Array.toList_map]
 simp[execOp,resolve,e0,Deferred.ofValue,invoke,e1,callFunc,h1,h3]
 intro hn
 rw[hn]at h2
 simp at h2
theorem Gb {fresh:Bool}{f:FuncId}{args:List FV}{R:List Lt→FV→Prop}{lent:List Lt}{K:List Nat}{aa:Array Operand}{ats:Array TypeId}{cf:Operand}{fst caps:List Tr}{key:Nat}(hS:aE fresh x.P f lent (dT fst++args++dT caps) R) (hf:CallOk x.P f) (hc:Ns x g cf f fst caps) (hK:dQ ob K K lent) (hnd:K.Nodup) (ha:mZ x.n g K aa.toList args) (hk:dB ob key=true) (hb:∀l r,R l r→l.length=K.length→(iV key r).isSome=true∧∃ok,dC K l ok):
  OS x ⟨some d,.call ⟨.value cf,aa,ats⟩,ty,pos,af,gd⟩ g ob K (fun g' ob'=>∃l r v os ok,R l r∧l.length=K.length∧iV key r=some (v,os)∧dC K l ok∧g'=aG g d v∧ob'=aU ob K ok++os.map some):=by
 intro cs ts W hR K' Q kk
 obtain⟨us0,us,e0,hfst,hcap⟩:=hc ob cs ts W hR
 unfold Oper.wp
 rw[tO hf e0]
 refine(Ao hS hK hnd ha hfst hcap hR).mono fun e W' hE=>?_
 obtain⟨v,lent',r,ys,cl,N2,rfl,hr,hl1,hl2,hro,hok,hndy,fin⟩:=hE
 obtain⟨hb1,ok,hbk⟩:=hb _ r hr hl1
 obtain⟨⟨v',os⟩,hbn⟩:=Option.isSome_iff_exists.1 hb1
 obtain⟨csn,e1,e2,e3,e4⟩:=vM (Ig hbn hro) hok hbn
 obtain⟨hN,hfin⟩:=fin ok hbk os csn e1 (fun b=>by rw[e2];exact Nat.le_refl _) e3
 have hk:=Nat.eq_of_beq_eq_true hk
 have hpl:(bT cs K cl).length=key:=by rw[fX,←hR.len,hk]
 obtain⟨g1,g2⟩:=e4 _ (bT cs K cl++csn) hN (by simp[hpl,e1]) (fun i _=>by
  unfold co
  rw[List.getElem?_append_right (by omega),hpl,show key+i-key=i by omega])
 obtain⟨m1,m2⟩:=hfin g2
 exact kk _ _ _ _ _ ⟨lent',r,v',os,ok,hr,hl1,hbn,hbk,rfl,rfl⟩ (m1.put d g1) ((m2 (some d)).then_put v)
theorem Rm {late:Nat→Bool}{K fr:List Nat}{fuel:Nat}{listed:Array Bool}{o:Oper}{Wr:List Nat}{R:(Nat→FV)→List (Option Ob)→Prop}(i:Nat) (hi:ops[i]? =some o) (hd:o.dst=some d) (hw:aH ops x.n g o.guard=some true) (h:OS x o g ob Wr R) (hW:∀k∈K,k∉Wr)
  (hg:∀g' ob',R g' ob'→(∃v,g'=aG g d v)∧∀k∈K,ob'[k]? =ob[k]?) (k:∀g' ob',R g' ob'→WD x ops Q late K (d::fr) true fuel (listed.setIfInBounds i true) g' ob'):WO x ops Q late K fr true fuel listed i g ob:=by
 refine Nf i hi hw h true (fun _=>⟨rfl,hW⟩) (fun _=>rfl) (fun _ g' ob' hR=>?_) fun g' ob' hR=>by rw[hd];exact k g' ob' hR
 obtain⟨⟨v,h1⟩,h2⟩:=hg g' ob' hR
 exact⟨by rw[hd,h1];exact nX,h2⟩
theorem Rn {late:Nat→Bool}{K fr:List Nat}{fuel:Nat}{listed:Array Bool}{o:Oper}{Wr:List Nat}{R:(Nat→FV)→List (Option Ob)→Prop}(i:Nat) (hr:Region.ready .any ops listed=[i]) (hi:ops[i]? =some o) (hd:o.dst=some d) (hw:aH ops x.n g o.guard=some true) (h:OS x o g ob Wr R) (hW:∀k∈K,k∉Wr)
  (hg:∀g' ob',R g' ob'→(∃v,g'=aG g d v)∧∀k∈K,ob'[k]? =ob[k]?) (k:∀g' ob',R g' ob'→WD x ops Q late K (d::fr) true fuel (listed.setIfInBounds i true) g' ob'):WD x ops Q late K fr true (fuel+1) listed g ob:=
 WO.one hr (Rm i hi hd hw h hW hg k)
theorem tP {K0:List Nat}:∀{l:List Lt}{a b:List (Option Ob)},dC K0 l a→dC K0 l b→a=b
 | [],a,b,h,h'=>by
  simp only[dC]at h h'
  rw[h,h']
 | x::l,[],b,h,_=>by simp only[dC]at h
 | x::l,a::al,[],_,h=>by simp only[dC]at h
 | x::l,a::al,b::bl,h,h'=>by
  simp only[dC]at h h'
  obtain⟨⟨l1,e1,e2⟩,h2⟩:=h
  obtain⟨⟨l2,f1,f2⟩,h3⟩:=h'
  rw[e1]at f1
  injection f1 with f1
  subst f1
  rw[e2,f2,tP h2 h3]
def Rt (l0:List Lt) (r0:FV):List Lt→FV→Prop:=fun l r=>l=l0∧r=r0
theorem Nv {t e z by_:Nat}{zz:Value}{ti:Bool}{ts0:Nat}{z0:List Value}{a:Operand}{t2:TypeId}{m:Nat}(hT:aZ x.P T) (ht:aJ T t=some ⟨ti,ts0,z0,.sl e z by_ zz⟩) (ha:fO (lk x.n g a)=some m):
  OS x ⟨some d,.binOp .eql t a (.const (.slice none 0 0)) t2,ty,pos,af,gd⟩ g ob [] (fun g' ob'=>∃q:Bool,(q=true→m=0)∧g'=aG g d (.one (tv (.bool q)))∧ob'=ob):=by
 obtain⟨hts,_⟩:=(bJ hT ht).2.2.2
 obtain⟨i,e1,_,_⟩:=hts
 intro cs ts W hR K Q kk
 obtain⟨A,c,hu⟩:=xP (hR.lk a) ha
 have h0:∀A c,Act.eval ⟨ts,[]⟩ a=.slice A m c→(A=none→m=0):=by
  intro A c hu hA
  subst hA
  have hv:=hR.lk a
  rw[hu]at hv
  cases hlk:lk x.n g a with
  | any=>rw[hlk]at ha;simp[fO]at ha
  | agg l=>rw[hlk]at ha;simp[fO]at ha
  | tup l=>rw[hlk]at ha;simp[fO]at ha
  | one av=>
   rw[hlk]at hv ha
   cases av with
   | pt=>simp[fO]at ha
   | ef=>simp[fO]at ha
   | fn=>simp[fO]at ha
   | sl k o n=>
    simp only[aK,aX,AR]at hv
    cases hb:(co cs k).b with
    | none=>
     rw[hb]at hv
     obtain⟨_,h1,_,h3⟩:=hv
     injection h3
    | some b=>
     rw[hb]at hv
     obtain⟨_,_,_,h3,_⟩:=hv
     injection h3 with h3
     cases h3
   | t y=>
    cases y with
    | p=>simp[fO]at ha
    | f=>simp[fO]at ha
    | a=>simp[fO]at ha
    | s o t z n l=>
     simp only[aK,aX,AR,FR]at hv
     obtain⟨A,c,h1,_,_,_,h5⟩:=hv
     injection h1 with h1 h2 _
     subst h1
     rcases h5 with h5 | ⟨ad,h5,_⟩
     ·omega
     cases h5
    | v w=>
     simp only[aK,aX,AR,FR]at hv
     subst hv
     unfold fO at ha
     split at ha
     ·rename_i h9
      cases h9
     ·rename_i h9
      cases h9
     ·rename_i h9
      injection ha with ha
      exact ha.symm
     cases ha
 have hrun:(execOp (Act.eval ⟨ts,[]⟩) ⟨some d,.binOp .eql t a (.const (.slice none 0 0)) t2,ty,pos,af,gd⟩).run x.P W=.ok (.value (.bool A.isNone)) W:=by
  have h3:∀A:Option Addr,(Op.equal t (.slice A m c) (.slice none 0 0)).run x.P W=.ok A.isNone W:=fun A=>by
   show(Op.equalIn (9999+1) t (.slice A m c) (.slice none 0 0)).run x.P W=_
   rw[Op.equalIn]
   simp only[Sem.run_bind,run_underlying e1,Result.andThen_ok]
   cases A <;> rfl
  have h4:Act.eval ⟨ts,[]⟩ (.const (.slice none 0 0))=.slice none 0 0:=rfl
  simp only[execOp,hu,h4,eqGuard_at_slice,binOp,Sem.run_bind,Sem.run_pure,Result.andThen_ok,h3]
 refine cD hrun (kk _ _ _ _ _ ⟨A.isNone,fun h=>h0 A c hu (by simpa using h),rfl,rfl⟩ (hR.put d (v:=.one (tv (.bool A.isNone))) (by simp[aK,aX,tv,AR,FR])) (.put d _))
theorem Gc {z:Array Value}{n:Nat}(h0:0<z.size):(Builtin.zeroCells z n).toList=eL z.toList n:=by
 unfold Builtin.zeroCells
 apply List.ext_getElem?
 intro j
 simp only[Array.toList_map,Array.toList_range,List.getElem?_map]
 by_cases hj:j<n*z.size
 ·rw[List.getElem?_range hj,pX (by simpa using hj)]
  simp only[Option.map_some]
  have hm:j%z.size<z.size:=Nat.mod_lt _ h0
  rw[getElem!_pos z _ hm]
  simp[hm]
 rw[List.getElem?_eq_none (by simp;omega),List.getElem?_eq_none (by simp[mI];omega)]
 rfl
theorem Cq:∀{us:List Value},cN (us.map tv)=true→∀n,cN ((eL us n).map tv)=true
 | us,h,0=>rfl
 | us,h,n+1=>by
  have ih:=Cq h n
  have app:∀(a b:List AV),cN a=true→cN b=true→cN (a++b)=true:=by
   intro a b
   induction a with
   | nil=>intro _ h;exact h
   | cons c a ih=>
    intro h1 h2
    simp only[cN,Bool.and_eq_true]at h1
    simp only[List.cons_append,cN,Bool.and_eq_true]
    exact⟨h1.1,ih h1.2 h2⟩
  unfold eL
  rw[List.map_append]
  exact app _ _ h ih
theorem Nw {t e z by_ k o n:Nat}{zz:Value}{ti:Bool}{ts0:Nat}{z0:List Value}{bo:Ob}{a:Operand}(hT:aZ x.P T) (ht:aJ T t=some ⟨ti,ts0,z0,.sl e z by_ zz⟩) (ha:lk x.n g a=.one (.sl k o n)) (ho:bI ob k=some bo) (hle:o+n*z≤bo.l.length) (hlo:cN (zz.cells.toList.map tv)=true):
  OS x ⟨none,.call ⟨.builtin .clear, #[a], #[t]⟩,ty,pos,af,gd⟩ g ob [k] (fun g' ob2=>g'=g∧ob2=ob.set k (some ⟨bo.t,bo.z,cJ bo.l o ((eL zz.cells.toList n).map tv)⟩)):=by
 obtain⟨_,ht',i,hi,hz,hsize,hby,hzs,hsz⟩:=(bJ hT ht).2.2.2
 have hk:=bU ho
 intro cs ts W hR K Q kk
 have hu:=hR.lk a
 rw[ha]at hu
 simp only[aK,aX,AR]at hu
 have idle:n=0→(execOp (Act.eval ⟨ts,[]⟩) ⟨none,.call ⟨.builtin .clear, #[a], #[t]⟩,ty,pos,af,gd⟩).run x.P W=.ok (.value (.tuple #[])) W→Oper.wp x.P ⟨none,.call ⟨.builtin .clear, #[a], #[t]⟩,ty,pos,af,gd⟩ ⟨ts,[]⟩ W K Q:=fun h0 hrun=>by
  subst h0
  unfold Oper.wp
  rw[hrun]
  have e1:cJ bo.l o ((eL zz.cells.toList 0).map tv)=bo.l:=by simp[cJ,eL]
  have e2:ob.set k (some ⟨bo.t,bo.z,cJ bo.l o ((eL zz.cells.toList 0).map tv)⟩)=ob:=by
   rw[e1]
   apply List.ext_getElem?
   intro j
   by_cases hj:k=j
   ·subst hj
    rw[List.getElem?_set_self (List.getElem?_eq_some_iff.1 hk).1,hk]
   rw[List.getElem?_set_ne hj]
  refine kk g _ cs ts W ⟨rfl,rfl⟩ (by rw[e2];exact hR) (by rw[e2];exact⟨.refl,fun _ _ _=>rfl,Nat.le_refl _,fun _ _ _=>rfl,fun _ h=>.inl h,fun _ _=>rfl⟩)
 cases hb:(co cs k).b with
 | none=>
  rw[hb]at hu
  obtain⟨_,h0,_,e⟩:=hu
  exact idle h0 (by simp[execOp,resolve,invoke,builtin,e,Builtin.clear_,run_underlying ht'])
 | some b=>
  rw[hb]at hu
  obtain⟨_,o',c,e,h1,h2,h3,_⟩:=hu
  rcases Nat.eq_zero_or_pos n with h0 | h0
  ·subst h0
   exact idle rfl (by simp[execOp,resolve,invoke,builtin,e,Builtin.clear_,run_underlying ht'])
  obtain rfl:=h3 (.inl h0)
  have hzl:((eL zz.cells.toList n).map tv).length=n*z:=by simp[mI,hzs]
  obtain⟨W',c',hst,m1,m2⟩:=hR.over (us:=(eL zz.cells.toList n).map tv) (vs:=eL zz.cells.toList n) (o:=o') hk hb (gJ _) (nN _) (Cq hlo n) (by rw[hzl];exact hle)
  have hd:∃m,n=m+1:=⟨n-1,by omega⟩
  obtain⟨m,hm⟩:=hd
  have hrun:(execOp (Act.eval ⟨ts,[]⟩) ⟨none,.call ⟨.builtin .clear, #[a], #[t]⟩,ty,pos,af,gd⟩).run x.P W=.ok (.value (.tuple #[])) W':=by
   rw[←Gc (by omega),hm]at hst
   rw[hm]at e
   simp[execOp,resolve,invoke,builtin,e,Builtin.clear_,run_underlying ht',zeroValue,typeInfo,hi,hz,hst]
  unfold Oper.wp
  rw[hrun]
  exact kk _ _ _ _ _ ⟨rfl,rfl⟩ m1 (m2 none)
end
end Go.Proofs.YteggpgndiajdpaaGreatDoor
