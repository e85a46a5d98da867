/- Part 5 of a proof: Av22 to Limb4. -/
import Derived.Test.YtbbabfkgdnkehaaGreatM4
import Derived.WalkKit
import Derived.ProofKit
import Derived.OpenShut
import Derived.ChangeOld
import Derived.Below
import Derived.Carry
import Derived.Test.YtbbabfkgdnkehaaGreatProg
import Derived.WalkSpells
import Derived.WalkLawsBesides
import Derived.Deep.QuietTactic
import Derived.BigQuiet
import Derived.Test.YtbbabfkgdnkehaaGreatM1
import Derived.Lib.SliceRun
import Derived.KernelRfl
set_option maxRecDepth 100000
set_option linter.unusedVariables false
set_option linter.unusedSimpArgs false
namespace Go.Proofs.YtbbabfkgdnkehaaGreat
open Go Go.RowKit
def eQ (ob:List (Option Ob)) (K0:List Nat):List Nat→List Lt→Prop
 | [],l=>l=[]
 | _::_,[]=>False
 | k::K,a::l=>Cg K0 (cT ob k) a.ob∧eQ ob K0 K l
def eH (K0:List Nat):List Lt→List (Option Ob)→Prop
 | [],l=>l=[]
 | _::_,[]=>False
 | a::l,o::os=>Cg K0 o a.ob∧eH K0 l os
def cE:List (Option Ob)→List Nat→List (Option Ob)→List (Option Ob)
 | ob,k::K,a::l=>cE (ob.set k a) K l
 | ob,_,_=>ob
def dS:List Co→List Nat→List Co→List Co
 | cs,k::K,c::l=>dS (cs.set k c) K l
 | cs,_,_=>cs
def cC (K:List Nat):List (Option Ob):=K.map fun _=>none
def kM (n:Nat) (g:Nat→FV) (K:List Nat):List Operand→List FV→Prop
 | [],aa=>aa=[]
 | _::_,[]=>False
 | o::os,a::aa=>Du K a=some (lk n g o)∧kM n g K os aa
def Tz (x:Cx) (g:Nat→FV) (cf:Operand) (f:FuncId) (fst caps:List Tr):Prop:=∀ob cs ts W,RelC x g ob cs ts W→∃us0 us,Act.eval ⟨ts,[]⟩ cf=.func (.func f) us0.toArray us.toArray∧FRL W (x.fr W ob cs) fst us0∧FRL W (x.fr W ob cs) caps us
def KV:Tr→FV
 | .a l=>.agg (l.map .t)
 | c=>.one (.t c)
def dE (caps:List Tr):List FV:=caps.map KV
section
variable {x:Cx}{g g':Nat→FV}{ob ob':List (Option Ob)}{cs cs':List Co}{ts ts':Array Value}{W W':World}
theorem tZ (f:FuncId):Tz x g (.func f) f [] []:=fun _ _ _ _ _=>⟨[],[],rfl,by simp[FRL],by simp[FRL]⟩
theorem Xy {cf:Operand}{f:FuncId}{fst caps:List Tr}(h:lk x.n g cf=.one (.t (.f f fst caps))):Tz x g cf f fst caps:=fun _ _ _ _ hR=>by
 have h1:=hR.lk cf
 rw[h]at h1
 simp only[bO,cD,AR,FR]at h1
 obtain⟨us0,us,e,h2⟩:=h1
 exact⟨us0,us,e,h2⟩
theorem Jb {N:Nat→Prop}:∀{l:List Tr}{us:List Value},FRL W N l us→ARL W N cs (l.map .t) us
 | [],us,h=>by simpa[FRL,ARL]using h
 | y::l,[],h=>by simp only[FRL]at h
 | y::l,u::us,h=>by
  simp only[FRL]at h
  simp only[List.map_cons,ARL,AR]
  exact⟨h.1,Jb h.2⟩
theorem jL:∀{K:List Nat}{l:List (Option Ob)}{ob:List (Option Ob)},(cE ob K l).length=ob.length
 | [],l,ob=>by simp[cE]
 | k::K,[],ob=>by simp[cE]
 | k::K,a::l,ob=>by simp[cE,jL (K:=K)]
theorem kH:∀{K:List Nat}{l:List Co}{cs:List Co},(dS cs K l).length=cs.length
 | [],l,cs=>by simp[dS]
 | k::K,[],cs=>by simp[dS]
 | k::K,a::l,cs=>by simp[dS,kH (K:=K)]
theorem kL:∀{K:List Nat}{l:List (Option Ob)}{ob:List (Option Ob)}{j:Nat},j∉K→(cE ob K l)[j]? =ob[j]?
 | [],l,ob,j,_=>by simp[cE]
 | k::K,[],ob,j,_=>by simp[cE]
 | k::K,a::l,ob,j,h=>by
  simp only[pL,not_or]at h
  simp only[cE]
  rw[kL h.2,List.getElem?_set_ne (fun e=>h.1 e.symm)]
theorem qH:∀{K:List Nat}{l:List Co}{cs:List Co}{j:Nat},j∉K→co (dS cs K l) j=co cs j
 | [],l,cs,j,_=>by simp[dS]
 | k::K,[],cs,j,_=>by simp[dS]
 | k::K,a::l,cs,j,h=>by
  simp only[pL,not_or]at h
  simp only[dS]
  rw[qH h.2]
  unfold co
  rw[List.getElem?_set_ne (fun e=>h.1 e.symm)]
theorem qI:∀{K:List Nat}{l:List (Option Ob)}{ob:List (Option Ob)}{i k:Nat},K.Nodup→l.length=K.length→K[i]? =some k→k<ob.length→(cE ob K l)[k]? =l[i]?
 | [],l,ob,i,k,_,_,h,_=>by simp at h
 | k0::K,[],ob,i,k,_,hl,_,_=>by simp at hl
 | k0::K,a::l,ob,0,k,hn,hl,h,hk=>by
  simp at h
  subst h
  have hn:=List.nodup_cons.1 hn
  simp only[cE]
  rw[kL hn.1,List.getElem?_set_self hk]
  rfl
 | k0::K,a::l,ob,i+1,k,hn,hl,h,hk=>by
  have hn:=List.nodup_cons.1 hn
  simp only[cE]
  exact qI hn.2 (by simpa using hl) (by simpa using h) (by simpa using hk)
theorem Bv:∀{K:List Nat}{l:List Co}{cs:List Co}{i k:Nat},K.Nodup→l.length=K.length→K[i]? =some k→k<cs.length→co (dS cs K l) k=co l i
 | [],l,cs,i,k,_,_,h,_=>by simp at h
 | k0::K,[],cs,i,k,_,hl,_,_=>by simp at hl
 | k0::K,a::l,cs,0,k,hn,hl,h,hk=>by
  simp at h
  subst h
  have hn:=List.nodup_cons.1 hn
  simp only[dS]
  rw[qH hn.1]
  simp[co,List.getElem?_set_self hk]
 | k0::K,a::l,cs,i+1,k,hn,hl,h,hk=>by
  have hn:=List.nodup_cons.1 hn
  simp only[dS]
  rw[Bv hn.2 (by simpa using hl) (by simpa using h) (by simpa using hk)]
  simp[co]
theorem xX {K0:List Nat}:∀{K:List Nat}{l:List Lt},eQ ob K0 K l→l.length=K.length
 | [],l,h=>by
  simp only[eQ]at h
  simp[h]
 | k::K,[],h=>by simp only[eQ]at h
 | k::K,a::l,h=>by
  simp only[eQ]at h
  simp[xX h.2]
theorem lG {K0:List Nat}:∀{K:List Nat}{l:List Lt}{i k:Nat},eQ ob K0 K l→K[i]? =some k→∃(a:Lt) (l':List AV),l[i]? =some a∧renL K0 a.l=some l'∧ob[k]? =some (some ⟨a.t,a.z,l'⟩)
 | [],l,i,k,_,h=>by simp at h
 | k0::K,[],i,k,h,_=>by simp only[eQ]at h
 | k0::K,a::l,0,k,h,hk=>by
  simp only[eQ]at h
  simp at hk
  subst hk
  obtain⟨⟨l',h1,h2⟩,_⟩:=h
  exact⟨a,l',rfl,h1,dM h2⟩
 | k0::K,a::l,i+1,k,h,hk=>by
  simp only[eQ]at h
  exact lG (i:=i) h.2 (by simpa using hk)
theorem Fv {K0:List Nat}:∀{l:List Lt}{os:List (Option Ob)},eH K0 l os→os.length=l.length
 | [],l,h=>by
  simp only[eH]at h
  simp[h]
 | k::K,[],h=>by simp only[eH]at h
 | k::K,a::l,h=>by
  simp only[eH]at h
  simp[Fv h.2]
theorem xY {K0:List Nat}:∀{l:List Lt}{os:List (Option Ob)}{i:Nat}{a:Lt},eH K0 l os→l[i]? =some a→∃l',renL K0 a.l=some l'∧os[i]? =some (some ⟨a.t,a.z,l'⟩)
 | [],_,_,_,_,h=>by simp at h
 | b::l,[],_,_,h,_=>by simp only[eH]at h
 | b::l,o::os,0,a,h,ha=>by
  simp only[eH]at h
  simp at ha
  subst ha
  obtain⟨⟨l',h1,h2⟩,_⟩:=h
  exact⟨l',h1,by rw[h2];rfl⟩
 | b::l,o::os,i+1,a,h,ha=>by
  simp only[eH]at h
  obtain⟨l',h1,h2⟩:=xY (i:=i) h.2 (by simpa using ha)
  exact⟨l',h1,by simpa using h2⟩
def Qc (K:List Nat) (cl cs2:List Co):Prop:=∀i k,K[i]? =some k→k<cs2.length∧co cs2 k=co cl i
mutual
theorem KW {K:List Nat}{N:Nat→Prop}{cl cs2:List Co}(hc:Qc K cl cs2):∀(a a':AV) (u:Value),gR K a=some a'→AR W N cl a u→AR W N cs2 a' u
 | .t y,a',u,h,hr=>by
  simp only[gR,Option.some.injEq]at h
  subst h
  simpa only[AR]using hr
 | .sl k o n,a',u,h,hr=>by
  simp only[gR]at h
  split at h
  ·rename_i t ht
   simp only[Option.some.injEq]at h
   subst h
   simp only[AR]at hr⊢
   rw[(hc k t ht).2]
   exact⟨(hc k t ht).1,hr.2⟩
  cases h
 | .pt k o,a',u,h,hr=>by
  simp only[gR]at h
  split at h
  ·rename_i t ht
   simp only[Option.some.injEq]at h
   subst h
   simp only[AR]at hr⊢
   rw[(hc k t ht).2]
   exact hr
  cases h
 | .ef l o,a',u,h,hr=>by
  simp only[gR,Option.some.injEq]at h
  subst h
  simpa only[AR]using hr
 | .fn f a b,a',u,h,hr=>by
  simp only[gR]at h
  split at h
  ·rename_i a1 b1 h1 h2
   simp only[Option.some.injEq]at h
   subst h
   simp only[AR]at hr⊢
   obtain⟨us,vs,e,r1,r2⟩:=hr
   exact⟨us,vs,e,ARL_to hc a a1 us h1 r1,ARL_to hc b b1 vs h2 r2⟩
  cases h
theorem ARL_to {K:List Nat}{N:Nat→Prop}{cl cs2:List Co}(hc:Qc K cl cs2):∀(l l':List AV) (us:List Value),renL K l=some l'→ARL W N cl l us→ARL W N cs2 l' us
 | [],l',us,h,hr=>by
  simp only[renL,Option.some.injEq]at h
  subst h
  simpa only[ARL]using hr
 | a::l,l',us,h,hr=>by
  simp only[renL]at h
  split at h
  ·rename_i a1 l1 h1 h2
   simp only[Option.some.injEq]at h
   subst h
   cases us with
   | nil=>simp only[ARL]at hr
   | cons u us=>
    simp only[ARL]at hr⊢
    exact⟨KW hc a a1 u h1 hr.1,ARL_to hc l l1 us h2 hr.2⟩
  cases h
end
theorem UE {N:Nat→Prop}{a:AV}{u:Value}(h:∀z,a≠.t z):CR W N cs a (.w u)↔AR W N cs a u:=by
 cases a with
 | t z=>exact absurd rfl (h z)
 | _=>simp only[CR]
theorem UF {K:List Nat}{a a':AV}(h:gR K a=some a') (hn:∀z,a≠.t z):∀z,a'≠.t z:=by
 intro z e
 subst e
 cases a with
 | t z=>exact hn z rfl
 | ef l o=>simp[gR]at h
 | _=>
  simp only[gR]at h
  split at h <;> simp at h
theorem YK {K:List Nat}{N:Nat→Prop}{cl cs2:List Co}(hc:Qc K cl cs2){a a':AV}{y:VT}(h:gR K a=some a') (hr:CR W N cl a y):CR W N cs2 a' y:=by
 by_cases ht:∃z,a=.t z
 ·obtain⟨z,rfl⟩:=ht
  simp only[gR,Option.some.injEq]at h
  subst h
  simpa only[CR]using hr
 have hn:∀z,a≠.t z:=fun z e=>ht ⟨z,e⟩
 cases y with
 | w u=>exact(UE (UF h hn)).2 (KW hc _ _ u h ((UE hn).1 hr))
 | _=>
  cases a with
  | t z=>exact absurd rfl (hn z)
  | _=>simp only[CR]at hr
theorem BO {K:List Nat}{N:Nat→Prop}{cl cs2:List Co}(hc:Qc K cl cs2):∀{l l':List AV}{ys:List VT},renL K l=some l'→bU W N cl l ys→bU W N cs2 l' ys
 | [],l',ys,h,hr=>by
  simp only[renL,Option.some.injEq]at h
  subst h
  simpa only[bU]using hr
 | a::l,l',ys,h,hr=>by
  simp only[renL]at h
  split at h
  ·rename_i a1 l1 h1 h2
   simp only[Option.some.injEq]at h
   subst h
   cases ys with
   | nil=>simp only[bU]at hr
   | cons y ys=>
    simp only[bU]at hr⊢
    exact⟨YK hc h1 hr.1,BO hc h2 hr.2⟩
  cases h
theorem Qd {K:List Nat}{l l':List AV}(h:renL K l=some l'):l=[]↔l'=[]:=by
 cases l with
 | nil=>
  simp only[renL,Option.some.injEq]at h
  simp[←h]
 | cons a l=>
  simp only[renL]at h
  split at h
  ·simp only[Option.some.injEq]at h
   simp[←h]
  cases h
theorem Jc (b:Nat):∀{K:List Nat}{l:List (Option Ob)}{lc:List Co}{ob:List (Option Ob)}{cs:List Co},K.Nodup→l.length=K.length→lc.length=K.length→ob.length=cs.length→(∀k∈K,k<ob.length)→
  (eK (cE ob K l) (dS cs K lc)).count b=(eK (cE ob K (cC K)) cs).count b+((aQ l lc).flatMap Res.S).count b
 | [],l,lc,ob,cs,_,h1,h2,_,_=>by
  obtain rfl:=List.eq_nil_of_length_eq_zero h1
  obtain rfl:=List.eq_nil_of_length_eq_zero h2
  simp[cE,dS,cC,aQ]
 | k::K,[],lc,ob,cs,_,h1,h2,_,_=>by simp at h1
 | k::K,a::l,[],ob,cs,_,h1,h2,_,_=>by simp at h2
 | k::K,a::l,c::lc,ob,cs,hn,h1,h2,h3,h4=>by
  have hn':=List.nodup_cons.1 hn
  have hk:=h4 k (by simp)
  have ih1:=Jc b (K:=K) (l:=l) (lc:=lc) (ob:=ob.set k a) (cs:=cs.set k c) hn'.2 (by simpa using h1) (by simpa using h2) (by simpa using h3) (fun j hj=>by simpa using h4 j (List.mem_cons_of_mem _ hj))
  have e1:cC (k::K)=none::cC K:=rfl
  simp only[cE,dS,e1,aQ,List.zipWith_cons_cons,List.flatMap_cons,List.count_append]
  unfold aQ at ih1
  rw[ih1]
  -- the k-th of the others
  have e2:cE (ob.set k none) K (cC K)=(cE (ob.set k a) K (cC K)).set k none:=by
   apply List.ext_getElem?
   intro j
   by_cases hj:j∈K
   ·obtain⟨i,hi⟩:=List.mem_iff_getElem?.1 hj
    have hkj:k≠j:=fun e=>hn'.1 (e▸hj)
    rw[List.getElem?_set_ne hkj,qI hn'.2 (by simp[cC]) hi (by simpa using h4 j (List.mem_cons_of_mem _ hj)),qI hn'.2 (by simp[cC]) hi (by simpa using h4 j (List.mem_cons_of_mem _ hj))]
   rw[kL hj]
   by_cases hkj:k=j
   ·subst hkj
    rw[List.getElem?_set_self hk,List.getElem?_set_self (by rw[jL];simpa using hk)]
   rw[List.getElem?_set_ne hkj,List.getElem?_set_ne hkj,kL hj,List.getElem?_set_ne hkj]
  have e3:(cE (ob.set k a) K (cC K))[k]? =some a:=by rw[kL hn'.1,List.getElem?_set_self hk]
  have hck:co (cs.set k c) k=c:=by simp[co,List.getElem?_set_self (show k<cs.length by omega)]
  have hl0:(cE (ob.set k a) K (cC K)).length=(cs.set k c).length:=by rw[jL];simpa using h3
  have h5:=sE (r':=aR none (co cs k)) (cJ hl0 e3) b
  rw[hck]at h5
  have e4:(aQ (cE (ob.set k a) K (cC K)) (cs.set k c)).set k (aR none (co cs k))=aQ (cE (ob.set k none) K (cC K)) cs:=by
   rw[e2,←lC]
   congr 1
   rw[List.set_set,wC (by omega)]
  have h6:(aR none (co cs k)).S=[]:=by cases hb:(co cs k).b <;> simp[aR]
  rw[e4,h6,List.count_nil]at h5
  unfold eK aQ
  unfold aQ at h5
  omega
theorem yL {K:List Nat}(hn:K.Nodup) (hl:ob.length=cs.length) (hK:∀k∈K,k<ob.length){r:Res}(h:r∈aQ (cE ob K (cC K)) cs):r∈aQ ob cs∨r.S=[]∧∀W,r.φ W:=by
 obtain⟨j,hj⟩:=List.mem_iff_getElem?.1 h
 by_cases hjK:j∈K
 ·obtain⟨i,hi⟩:=List.mem_iff_getElem?.1 hjK
  have h1:=qI (l:=cC K) hn (by simp[cC]) hi (hK j hjK)
  have h2:(cC K)[i]? =some none:=by simp[cC,hi]
  rw[h2]at h1
  rw[cJ (by rw[jL];exact hl) h1]at hj
  injection hj with hj
  subst hj
  refine .inr ⟨?_,fun W=>?_⟩ <;> cases hb:(co cs j).b <;> simp[aR]
 left
 have h1:=kL (l:=cC K) (ob:=ob) hjK
 cases h2:ob[j]? with
 | none=>
  rw[h2]at h1
  have:¬j<(cE ob K (cC K)).length:=fun h=>by simp[h]at h1
  have h3:=(List.getElem?_eq_some_iff.1 hj).1
  rw[kJ (by rw[jL];exact hl)]at h3
  rw[jL]at this
  omega
 | some o=>
  rw[h2]at h1
  rw[cJ (by rw[jL];exact hl) h1]at hj
  injection hj with hj
  subst hj
  exact List.mem_of_getElem? (cJ hl h2)
theorem BP {K:List Nat}{N':Nat→Prop}(hR:RelC x g ob cs ts W) (hN:∀b,x.fr W ob cs b→N' b):∀{os:List Operand}{aa:List FV},kM x.n g K os aa→eG W N' (K.map (co cs)) aa (os.map (Act.eval ⟨ts,[]⟩))
 | [],aa,h=>by
  simp only[kM]at h
  simp[h,eG]
 | o::os,[],h=>by simp only[kM]at h
 | o::os,a::aa,h=>by
  simp only[kM]at h
  simp only[List.map_cons,eG]
  refine⟨?_,BP hR hN h.2⟩
  have:=Uq hN h.1 (hR.lk o)
  cases a with
  | tup l=>simp[Du]at h
  | _=>exact this
theorem Jd {N:Nat→Prop}:∀{l l':List FV}{us us':List Value},eG W N cs l us→eG W N cs l' us'→eG W N cs (l++l') (us++us')
 | [],l',us,us',h,h'=>by
  simp only[eG]at h
  subst h
  simpa using h'
 | a::l,l',u::us,us',h,h'=>by
  simp only[eG]at h
  simp only[List.cons_append,eG]
  exact⟨h.1,Jd h.2 h'⟩
 | _::_,_,[],_,h,_=>by simp only[eG]at h
theorem Eb {N N':Nat→Prop}(hN:∀b,N b→N' b):∀{caps:List Tr}{us:List Value},FRL W N caps us→eG W N' cs (dE caps) us
 | [],us,h=>by
  simp only[FRL]at h
  simp[h,dE,eG]
 | c::caps,[],h=>by simp only[FRL]at h
 | c::caps,u::us,h=>by
  simp only[FRL]at h
  simp only[dE,List.map_cons,eG]
  refine⟨?_,Eb hN h.2⟩
  have h1:=jU (W':=W) (fun _ _=>rfl) hN _ _ h.1
  cases c with
  | a l=>
   simp only[FR]at h1
   obtain⟨us,e,h2⟩:=h1
   exact⟨us,e,Jb h2⟩
  | _=>simpa only[KV,cD,AR]using h1
theorem Gz {a b:List Co}{k:Nat}(h:a.length≤k):co (a++b) k=co b (k-a.length):=by
 unfold co
 rw[List.getElem?_append_right h]
theorem rS {fresh:Bool}{f:FuncId}{args:List FV}{R:List Lt→FV→Prop}{lent given:List Lt}{K K1 K2:List Nat}{os:List Operand}{fst caps:List Tr}{fus cus:List Value}(hS:nI fresh x.P f lent given (dE fst++args++dE caps) R) (hKK:K=K1++K2) (hl1:lent.length=K1.length) (hK:eQ ob K K (lent++given)) (hnd:K.Nodup) (ha:kM x.n g K os args) (hfst:FRL W (x.fr W ob cs) fst fus) (hcap:FRL W (x.fr W ob cs) caps cus) (hR:RelC x g ob cs ts W):
  Calls x.P f (fus++os.map (Act.eval ⟨ts,[]⟩)++cus).toArray W (fun e W'=>∃v lent' r ys cl N2,e=.returned v∧R lent' r∧lent'.length=K1.length∧cl.length=K1.length∧RO W' N2 cl r v ys∧VT.okL W' ys∧(VT.fpL ys).Nodup∧
   ∀(ok:List (Option Ob)),eH K1 lent' ok→∀(oz:List Ob) (csn:List Co),csn.length=oz.length→(∀b,((aQ (oz.map some) csn).flatMap Res.S).count b≤(VT.fpL ys).count b)→(∀r∈aQ (oz.map some) csn,r.φ W')→
    (∀b,N2 b→x.fr W' (cE ob K (ok++cC K2)++oz.map some) (dS cs K (cl++K2.map (co cs))++csn) b)∧
    ((∀i o,oz[i]? =some o→bU W' (x.fr W' (cE ob K (ok++cC K2)++oz.map some) (dS cs K (cl++K2.map (co cs))++csn)) (dS cs K (cl++K2.map (co cs))++csn) o.l (co csn i).l∧((co csn i).b=none→o.l=[]∧o.z≠0))→
     RelC x g (cE ob K (ok++cC K2)++oz.map some) (dS cs K (cl++K2.map (co cs))++csn) ts W'∧∀d,Aft K d ob cs ts W (cE ob K (ok++cC K2)++oz.map some) (dS cs K (cl++K2.map (co cs))++csn) ts W')):=by
 have hlen:=hR.len
 have hll:=xX hK
 have hKl:∀k∈K,k<ob.length:=fun k hk=>by
  obtain⟨i,hi⟩:=List.mem_iff_getElem?.1 hk
  obtain⟨a,l',_,_,h2⟩:=lG hK hi
  exact(List.getElem?_eq_some_iff.1 h2).1
 have hlobs:(cB (lent++given)).length=K.length:=by rw[lE,hll]
 have hput0:aQ (cE ob K (cB (lent++given))) cs=aQ ob cs:=by
  have hl0:(cE ob K (cB (lent++given))).length=cs.length:=by rw[jL];exact hlen
  apply List.ext_getElem?
  intro j
  by_cases hjl:j<ob.length
  ·by_cases hj:j∈K
   ·obtain⟨i,hi⟩:=List.mem_iff_getElem?.1 hj
    obtain⟨a,l',h1,_,h2⟩:=lG hK hi
    have h3:=qI hnd hlobs hi hjl
    rw[lF,h1]at h3
    rw[cJ hl0 h3,cJ hlen h2]
    exact congrArg some (rC _ _)
   have h3:=kL (l:=cB (lent++given)) (ob:=ob) hj
   rw[gG hjl]at h3
   rw[cJ hl0 h3,cJ hlen (gG hjl)]
  rw[List.getElem?_eq_none (by rw[kJ hl0];omega),List.getElem?_eq_none (by rw[kJ hlen];omega)]
 have hputc:dS cs K (K.map (co cs))=cs:=by
  have key:∀(K:List Nat),(∀k∈K,k<cs.length)→dS cs K (K.map (co cs))=cs:=by
   intro K
   induction K with
   | nil=>intro _;rfl
   | cons k K ih=>
    intro h
    simp only[List.map_cons,dS]
    rw[wC (h k (by simp))]
    exact ih fun j hj=>h j (List.mem_cons_of_mem _ hj)
  exact key K fun k hk=>by rw[←hlen];exact hKl k hk
 have hcnt0:=fun b=>Jc b (l:=cB (lent++given)) (lc:=K.map (co cs)) (cs:=cs) hnd hlobs (by simp) hlen hKl
 unfold eK at hcnt0
 rw[hputc,hput0]at hcnt0
 have hfr0:∀b,x.fr W ob cs b→uN W (aQ (cB (lent++given)) (K.map (co cs))) b:=fun b hb=>And.intro hb.1.1 fun hm=>hb.1.2 (by
  have h1:=List.count_pos_iff.2 hm
  have h2:=hcnt0 b
  exact List.count_pos_iff.1 (show 0<((aQ ob cs).flatMap Res.S).count b by omega))
 have hgetL:∀i k,K[i]? =some k→∃(a:Lt) (l':List AV),(lent++given)[i]? =some a∧renL K a.l=some l'∧ob[k]? =some (some (⟨a.t,a.z,l'⟩:Ob)):=fun i k hi=>lG hK hi
 have hφ0:∀r∈aQ (cB (lent++given)) (K.map (co cs)),r.φ W:=fun r hr=>by
  obtain⟨i,hi⟩:=List.mem_iff_getElem?.1 hr
  have hil:=(List.getElem?_eq_some_iff.1 hi).1
  have hil2:i<K.length:=by
   rw[kJ (by simp[hlobs])]at hil
   simpa using hil
  obtain⟨a,l',h1,_,h2⟩:=hgetL i K[i] (gG hil2)
  have e1:(cB (lent++given))[i]? =some (some a.ob):=by rw[lF,h1];rfl
  rw[cJ (by simp[hlobs]) e1,rB (gG hil2)]at hi
  injection hi with hi
  subst hi
  rw[show aR (some a.ob) (co cs K[i])=aR (some ⟨a.t,a.z,l'⟩) (co cs K[i]) from rC _ _]
  exact hR.res h2
 have h1:Loc x.M x.w W (aQ (cB (lent++given)) (K.map (co cs))++aQ (cE ob K (cC K)) cs) []:=(hR.2.pickS []).cut (fun b=>by
  rw[List.flatMap_append,List.count_append]
  have:=hcnt0 b
  omega) (fun r hr=>by
  rcases List.mem_append.1 hr with hr | hr
  ·exact hφ0 r hr
  rcases yL hnd hlen hKl hr with hr | hr
  ·exact hR.2.res r hr
  exact hr.2 W)
 have h2:Loc ((aQ (cB (lent++given)) (K.map (co cs))).flatMap Res.S) W W (aQ (cB (lent++given)) (K.map (co cs))) [(BI (lent++given) (K.map (co cs)) (dE fst++args++dE caps) (fus++os.map (Act.eval ⟨ts,[]⟩)++cus)).on (x.fr W ob cs)]:=by
  refine h1.focus.read _ ⟨⟨by simp[hlobs],fun k o hk=>?_⟩,Jd (Jd (Eb (fun b hb=>⟨hfr0 b hb,hb⟩) hfst) (BP hR (fun b hb=>⟨hfr0 b hb,hb⟩) ha)) (Eb (fun b hb=>⟨hfr0 b hb,hb⟩) hcap)⟩
  rw[lF]at hk
  cases hq:(lent++given)[k]? with
  | none=>rw[hq]at hk;cases hk
  | some a=>
   rw[hq]at hk
   simp at hk
   subst hk
   have hkK:k<K.length:=by rw[←hll];exact(List.getElem?_eq_some_iff.1 hq).1
   obtain⟨a',l',q1,q0,q2⟩:=hgetL k K[k] (gG hkK)
   rw[hq]at q1
   injection q1 with q1
   subst q1
   have q3:=hR.obs.2 _ _ q2
   rw[rB (gG hkK)]
   exact⟨Io (fun b hb=>⟨hfr0 b hb,hb⟩) q0 q3.1,fun h=>⟨(Qd q0).2 (q3.2 h).1,(q3.2 h).2⟩⟩
 refine(hS _ W _ _ h2).mono fun e W' hE=>?_
 obtain⟨v,lent',cl,r,ys,rfl,hr,hl',hty,hcl,hsame,h3⟩:=hE
 have hK1n:K1.length≤K.length:=by rw[hKK,fE];omega
 have hK1i:∀i,i<K1.length→K[i]? =K1[i]? :=fun i hi=>by rw[hKK,List.getElem?_append_left hi]
 have h4:=Loc.turn h1 h3
 have hsh:=Sh.off (h3.sh 0 rfl)
 have hclK:cl.length=K1.length:=by rw[hcl,hl1]
 have hlK:lent'.length=K1.length:=by rw[hl',hl1]
 refine⟨v,lent',r,ys,cl,_,rfl,hr,hlK,hclK,hsh.2,h3.res (jK ys) (by simp),?_,fun ok hbk oz csn hlz hcz hφz=>?_⟩
 ·have:=h3.nd
  rw[List.flatMap_append,List.nodup_append]at this
  simpa[jK]using this.2.1
 have hlobk:ok.length=K1.length:=by rw[Fv hbk,hlK]
 have hn2:(cC K2).length=K2.length:=by simp[cC]
 have hlob':(ok++cC K2).length=K.length:=by rw[fE,hlobk,hn2,hKK,fE]
 have hcl':(cl++K2.map (co cs)).length=K.length:=by rw[fE,hclK,dB,hKK,fE]
 have hrk:aQ ok cl=aQ (cB lent') cl:=by
  apply List.ext_getElem?
  intro j
  by_cases hj:j<lent'.length
  ·obtain⟨l',q1,q2⟩:=xY hbk (gG hj)
   rw[cJ (by rw[hlobk,hclK]) q2,cJ (ob:=cB lent') (by rw[lE,hlK,hclK]) (o:=some (lent'[j]).ob) (by rw[lF,gG hj];rfl)]
   exact congrArg some (rC _ _)
  rw[List.getElem?_eq_none (by rw[kJ (by rw[hlobk,hclK])];omega),List.getElem?_eq_none (by rw[kJ (by rw[lE,hlK,hclK])];omega)]
 have hrz:∀r∈aQ (cC K2) (K2.map (co cs)),r.S=[]∧∀W,r.φ W:=fun r hr=>by
  obtain⟨i,hi⟩:=List.mem_iff_getElem?.1 hr
  obtain⟨o,c,e1,e2,rfl⟩:=Uw hi
  have:o=none:=by
   unfold cC at e1
   rw[List.getElem?_map]at e1
   cases hq:K2[i]? with
   | none=>rw[hq]at e1;cases e1
   | some k=>rw[hq]at e1;simpa using e1.symm
  subst this
  refine⟨?_,fun W=>?_⟩ <;> cases hb:c.b <;> simp[aR]
 have hS2:((aQ (ok++cC K2) (cl++K2.map (co cs))).flatMap Res.S)=(aQ (cB lent') cl).flatMap Res.S:=by
  have e1:aQ (ok++cC K2) (cl++K2.map (co cs))=aQ ok cl++aQ (cC K2) (K2.map (co cs)):=by
   unfold aQ
   rw[List.zipWith_append (by rw[hlobk,hclK])]
  rw[e1,List.flatMap_append,hrk,List.flatMap_eq_nil_iff.2 fun r hr=>(hrz r hr).1,List.append_nil]
 have hlen2:(cE ob K (ok++cC K2)).length=(dS cs K (cl++K2.map (co cs))).length:=by rw[jL,kH];exact hlen
 have hrs:aQ (cE ob K (ok++cC K2)++oz.map some) (dS cs K (cl++K2.map (co cs))++csn)=aQ (cE ob K (ok++cC K2)) (dS cs K (cl++K2.map (co cs)))++aQ (oz.map some) csn:=by
  unfold aQ
  rw[List.zipWith_append hlen2]
 have hcnt2:∀b,(eK (cE ob K (ok++cC K2)++oz.map some) (dS cs K (cl++K2.map (co cs))++csn)).count b≤(((aQ (cB lent') cl++[jK ys])++aQ (cE ob K (cC K)) cs).flatMap Res.S).count b:=fun b=>by
  have q1:=Jc b (l:=ok++cC K2) (lc:=cl++K2.map (co cs)) (cs:=cs) hnd hlob' hcl' hlen hKl
  rw[hS2]at q1
  have q2:=hcz b
  unfold eK at q1⊢
  rw[hrs,List.flatMap_append,List.count_append,List.flatMap_append,List.count_append,List.flatMap_append,List.count_append,List.flatMap_cons,List.flatMap_nil,List.append_nil]
  have q3:(jK ys).S=VT.fpL ys:=rfl
  rw[q3]
  omega
 have hin2:∀b,b∈eK (cE ob K (ok++cC K2)++oz.map some) (dS cs K (cl++K2.map (co cs))++csn)→b∈((aQ (cB lent') cl++[jK ys])++aQ (cE ob K (cC K)) cs).flatMap Res.S:=fun b hb=>List.count_pos_iff.1 (Nat.lt_of_lt_of_le (List.count_pos_iff.2 hb) (hcnt2 b))
 have hrest:∀b,b∈(aQ (cE ob K (cC K)) cs).flatMap Res.S→b∈eK ob cs:=fun b hb=>by
  obtain⟨r,hr,hb⟩:=List.mem_flatMap.1 hb
  rcases yL hnd hlen hKl hr with hr | hr
  ·exact List.mem_flatMap.2 ⟨r,hr,hb⟩
  rw[hr.1]at hb
  cases hb
 have hlentS:∀b,b∈(aQ (cB (lent++given)) (K.map (co cs))).flatMap Res.S→b∈eK ob cs:=fun b hb=>by
  have q1:=List.count_pos_iff.2 hb
  have q2:=hcnt0 b
  exact List.count_pos_iff.1 (show 0<((aQ ob cs).flatMap Res.S).count b by omega)
 have hfree:∀b,uN W' (aQ (cB lent') cl++[jK ys]) b→(x.fr W ob cs b∨b∈(aQ (cB (lent++given)) (K.map (co cs))).flatMap Res.S∨W.heap.size≤b)→x.fr W' (cE ob K (ok++cC K2)++oz.map some) (dS cs K (cl++K2.map (co cs))++csn) b:=fun b hb hb'=>by
  refine⟨⟨hb.1,fun hm=>?_⟩,?_⟩
  ·have hm:=hin2 b hm
   rw[List.flatMap_append,List.mem_append]at hm
   rcases hm with hm | hm
   ·exact hb.2 hm
   have hm2:=hrest b hm
   rcases hb' with hb' | hb' | hb'
   ·exact hb'.1.2 hm2
   ·have q1:=hcnt0 b
    have q2:=List.nodup_iff_count.1 hR.2.nd b
    have q3:=List.count_pos_iff.2 hb'
    have q4:=List.count_pos_iff.2 hm
    unfold eK at q1
    omega
   have:=(hR.2.blk b hm2).2
   omega
  rcases hb' with hb' | hb' | hb'
  ·exact hb'.2
  ·exact .inr (hR.2.blk b (hlentS b hb')).1
  exact .inr (.inr (Nat.le_trans hR.2.chg.size hb'))
 have hsize:W.heap.size≤W'.heap.size:=h3.chg.size
 have hfr:∀b,x.fr W ob cs b→x.fr W' (cE ob K (ok++cC K2)++oz.map some) (dS cs K (cl++K2.map (co cs))++csn) b:=fun b hb=>by
  refine hfree b ⟨Nat.lt_of_lt_of_le hb.1.1 hsize,fun hm=>?_⟩ (.inl hb)
  have q1:=h3.blk b hm
  rcases q1.1 with q1 | q1
  ·exact hb.1.2 (hlentS b q1)
  have:=hb.1.1
  omega
 have hkeep:∀b,x.fr W ob cs b→W'.heap[b]? =W.heap[b]? :=fun b hb=>h3.chg.block b hb.1.1 (fun hm=>hb.1.2 (hlentS b hm))
 refine⟨fun b hb=>hfree b hb.2.1 hb.2.2,fun hoz=>?_⟩
 have hcoK:∀i k,K[i]? =some k→co (dS cs K (cl++K2.map (co cs))) k=co (cl++K2.map (co cs)) i:=fun i k hi=>Bv hnd hcl' hi (by rw[←hlen];exact hKl k (List.mem_of_getElem? hi))
 have hco1:∀i,i<K1.length→co (cl++K2.map (co cs)) i=co cl i:=fun i hi=>by simp[co,List.getElem?_append_left (show i<cl.length by omega)]
 have hco2:∀i k,K[i]? =some k→K1.length≤i→co (cl++K2.map (co cs)) i=co cs k:=fun i k hi hge=>by
  rw[hKK,List.getElem?_append_right hge]at hi
  unfold co
  rw[List.getElem?_append_right (by omega),hclK,List.getElem?_map,hi]
  rfl
 have hsame2:Same cs (dS cs K (cl++K2.map (co cs))):=⟨by rw[kH];exact bC _,fun k hk=>by
  by_cases hkK:k∈K
  ·obtain⟨i,hi⟩:=List.mem_iff_getElem?.1 hkK
   rw[hcoK i k hi]
   rcases Nat.lt_or_ge i K1.length with hil | hig
   ·have:=hsame i (by omega)
    rw[rB hi]at this
    rw[hco1 i hil]
    exact this
   rw[hco2 i k hi hig]
   exact⟨rfl,rfl⟩
  rw[qH hkK]
  exact⟨rfl,rfl⟩⟩
 have happ:∀{k},k<(dS cs K (cl++K2.map (co cs))).length→co (dS cs K (cl++K2.map (co cs))++csn) k=co (dS cs K (cl++K2.map (co cs))) k:=fun hk=>by simp[co,List.getElem?_append_left hk]
 have hsame3:Same cs (dS cs K (cl++K2.map (co cs))++csn):=hsame2.trans ⟨by simp,fun k hk=>by rw[happ hk];exact⟨rfl,rfl⟩⟩
 have hLf:Loc x.M x.w W' (aQ (cE ob K (ok++cC K2)++oz.map some) (dS cs K (cl++K2.map (co cs))++csn)) []:=h4.cut hcnt2 (fun r hr=>by
  rw[hrs]at hr
  rcases List.mem_append.1 hr with hr | hr
  ·obtain⟨j,hj⟩:=List.mem_iff_getElem?.1 hr
   have hjl:=(List.getElem?_eq_some_iff.1 hj).1
   rw[kJ hlen2,kH,←hlen]at hjl
   by_cases hjK:j∈K
   ·obtain⟨i,hi⟩:=List.mem_iff_getElem?.1 hjK
    have q1:=qI hnd hlob' hi (hKl j hjK)
    rcases Nat.lt_or_ge i K1.length with hil | hig
    ·have q2:i<ok.length:=by rw[hlobk];exact hil
     rw[List.getElem?_append_left q2,gG q2]at q1
     rw[cJ hlen2 q1,hcoK i j hi,hco1 i hil]at hj
     injection hj with hj
     subst hj
     refine h3.res _ (List.mem_append_left _ (by rw[←hrk];exact List.mem_of_getElem? (cJ (by rw[hlobk,hclK]) (gG q2))))
    have hik:=(List.getElem?_eq_some_iff.1 hi).1
    have q2:(ok++cC K2)[i]? =some none:=by
     rw[List.getElem?_append_right (by rw[hlobk];exact hig),hlobk]
     unfold cC
     rw[hKK,fE]at hik
     rw[List.getElem?_map,gG (by omega)]
     rfl
    rw[q2]at q1
    rw[cJ hlen2 q1]at hj
    injection hj with hj
    subst hj
    cases hb:(co (dS cs K (cl++K2.map (co cs))) j).b <;> simp[aR]
   have q1:(cE ob K (ok++cC K2))[j]? =ob[j]? :=kL hjK
   rw[gG hjl]at q1
   rw[cJ hlen2 q1,qH hjK]at hj
   injection hj with hj
   subst hj
   have q2:(cE ob K (cC K))[j]? =ob[j]? :=kL hjK
   rw[gG hjl]at q2
   exact h4.res _ (List.mem_append_right _ (List.mem_of_getElem? (cJ (by rw[jL];exact hlen) q2)))
  exact hφz r hr)
 refine⟨.of hR.1 hLf ⟨by rw[fE,fE,hlen2,dB,hlz],fun k o hk=>?_⟩ (fun i hi=>?_) (hR.3.trans hsame3),fun d=>⟨hsame3,fun k hk hkc=>?_,hsize,fun b hlt hb=>?_,fun b hb=>?_,fun _ _=>rfl⟩⟩
 ·rcases Nat.lt_or_ge k (cE ob K (ok++cC K2)).length with hlt | hge
  ·rw[List.getElem?_append_left hlt]at hk
   rw[happ (by rw[←hlen2];exact hlt)]
   rw[jL]at hlt
   by_cases hkK:k∈K
   ·obtain⟨i,hi⟩:=List.mem_iff_getElem?.1 hkK
    rw[qI hnd hlob' hi hlt]at hk
    have hik:=(List.getElem?_eq_some_iff.1 hi).1
    rcases Nat.lt_or_ge i K1.length with hil9 | hig
    case inr=>
     rw[List.getElem?_append_right (by rw[hlobk];exact hig),hlobk]at hk
     unfold cC at hk
     rw[List.getElem?_map]at hk
     cases hq:K2[i-K1.length]? with
     | none=>rw[hq]at hk;cases hk
     | some k9=>rw[hq]at hk;simp at hk
    have hil:i<lent'.length:=by rw[hlK];exact hil9
    obtain⟨l',q0,q2⟩:=xY hbk (gG hil)
    rw[List.getElem?_append_left (by rw[hlobk];exact hil9),q2]at hk
    injection hk with hk
    injection hk with hk
    subst hk
    have q1:=hsh.1.2 i (lent'[i]).ob (by rw[lF,gG hil];rfl)
    rw[hcoK i k hi,hco1 i hil9]
    have q3:Qc K1 cl (dS cs K (cl++K2.map (co cs))++csn):=fun i k hi=>by
     have hi1:=(List.getElem?_eq_some_iff.1 hi).1
     have hi:=(hK1i i hi1).trans hi
     have hkl:=hKl k (List.mem_of_getElem? hi)
     have hkp:k<(dS cs K (cl++K2.map (co cs))).length:=by rw[kH,←hlen];exact hkl
     exact⟨by rw[fE];omega,by rw[happ hkp,hcoK i k hi,hco1 i hi1]⟩
    exact⟨dN (fun _ _=>rfl) (fun b hb=>hfree b hb.2.1 hb.2.2) .refl _ _ (BO q3 q0 q1.1),fun h=>⟨(Qd q0).1 (q1.2 h).1,(q1.2 h).2⟩⟩
   rw[kL hkK]at hk
   rw[qH hkK]
   have q1:=hR.obs.2 k o hk
   exact⟨dN hkeep hfr hsame3 _ _ q1.1,q1.2⟩
  rw[List.getElem?_append_right hge]at hk
  have ho:oz[k-(cE ob K (ok++cC K2)).length]? =some o:=by
   rw[List.getElem?_map]at hk
   cases hq:oz[k-(cE ob K (ok++cC K2)).length]? with
   | none=>rw[hq]at hk;cases hk
   | some o'=>
    rw[hq]at hk
    simp at hk
    rw[hk]
  have q1:=hoz _ o ho
  have e:co (dS cs K (cl++K2.map (co cs))++csn) k=co csn (k-(cE ob K (ok++cC K2)).length):=by
   rw[Gz (by rw[←hlen2];exact hge),hlen2]
  rw[e]
  exact q1
 ·obtain⟨u,q1,q2⟩:=hR.fv hi
  exact⟨u,q1,gI hkeep hfr hsame3 _ _ q2⟩
 ·rw[happ (by rw[kH];exact hkc),qH hk]
 ·refine h3.chg.block b hlt fun hm=>?_
  obtain⟨r,hr,hbr⟩:=List.mem_flatMap.1 hm
  obtain⟨i,hi⟩:=List.mem_iff_getElem?.1 hr
  have hil:=(List.getElem?_eq_some_iff.1 hi).1
  have hil2:i<K.length:=by
   rw[kJ (by simp[hlobs])]at hil
   simpa using hil
  obtain⟨a,l',q1,_,q2⟩:=hgetL i K[i] (gG hil2)
  have e1:(cB (lent++given))[i]? =some (some a.ob):=by rw[lF,q1];rfl
  rw[cJ (by simp[hlobs]) e1,rB (gG hil2)]at hi
  injection hi with hi
  subst hi
  rw[show aR (some a.ob) (co cs K[i])=aR (some ⟨a.t,a.z,l'⟩) (co cs K[i]) from rC _ _]at hbr
  exact hb K[i] (List.getElem_mem hil2) _ q2 hbr
 have q1:=hin2 b hb
 rw[List.flatMap_append,List.mem_append]at q1
 rcases q1 with q1 | q1
 ·rcases(h3.blk b q1).1 with q2 | q2
  ·exact .inl (hlentS b q2)
  exact .inr q2
 exact .inl (hrest b q1)
theorem Lo {fresh:Bool}{P:Program}{f:FuncId}{args:List FV}{R:List Lt→FV→Prop}{lent:List Lt}(hS:aE fresh P f lent args R):nI fresh P f lent [] args R:=fun N w cs us hL=>by
 rw[List.append_nil]at hL⊢
 have hs0:=Sh.off (hL.sh 0 rfl)
 have hlen:lent.length=cs.length:=by have h0:=hs0.1.1;rwa[lE]at h0
 refine(hS N w cs us hL).mono fun e W hE=>?_
 obtain⟨v,lent',cs',r,y,h1,h2,h3,h4,h5,h6,h7⟩:=hE
 exact⟨v,lent',cs',r,y,h1,h2,h3,h4,by rw[h5,hlen],fun k hk=>h6.2 k (by omega),h7⟩
theorem xZ {fresh:Bool}{f:FuncId}{args:List FV}{R:List Lt→FV→Prop}{lent:List Lt}{K:List Nat}{os:List Operand}{fst caps:List Tr}{fus cus:List Value}(hS:aE fresh x.P f lent (dE fst++args++dE caps) R) (hK:eQ ob K K lent) (hnd:K.Nodup) (ha:kM x.n g K os args) (hfst:FRL W (x.fr W ob cs) fst fus) (hcap:FRL W (x.fr W ob cs) caps cus) (hR:RelC x g ob cs ts W):
  Calls x.P f (fus++os.map (Act.eval ⟨ts,[]⟩)++cus).toArray W (fun e W'=>∃v lent' r ys cl N2,e=.returned v∧R lent' r∧lent'.length=K.length∧cl.length=K.length∧RO W' N2 cl r v ys∧VT.okL W' ys∧(VT.fpL ys).Nodup∧
   ∀(ok:List (Option Ob)),eH K lent' ok→∀(oz:List Ob) (csn:List Co),csn.length=oz.length→(∀b,((aQ (oz.map some) csn).flatMap Res.S).count b≤(VT.fpL ys).count b)→(∀r∈aQ (oz.map some) csn,r.φ W')→
    (∀b,N2 b→x.fr W' (cE ob K ok++oz.map some) (dS cs K cl++csn) b)∧
    ((∀i o,oz[i]? =some o→bU W' (x.fr W' (cE ob K ok++oz.map some) (dS cs K cl++csn)) (dS cs K cl++csn) o.l (co csn i).l∧((co csn i).b=none→o.l=[]∧o.z≠0))→
     RelC x g (cE ob K ok++oz.map some) (dS cs K cl++csn) ts W'∧∀d,Aft K d ob cs ts W (cE ob K ok++oz.map some) (dS cs K cl++csn) ts W')):=by
 have h:=rS (given:=[]) (K1:=K) (K2:=[]) (Lo hS) (List.append_nil K).symm (xX hK) (by rw[List.append_nil];exact hK) hnd ha hfst hcap hR
 simpa only[cC,List.map_nil,List.append_nil]using h
end
theorem Qe {k:Nat}{a:AV}(h:(xV k a).isSome=true):∃y,a=.t y:=by
 cases a with
 | t y=>exact⟨y,rfl⟩
 | _=>simp[xV]at h
theorem Qf {W:World}{N:Nat→Prop}{cs:List Co}:∀{l:List AV}{k:Nat}{r:List AV×List Ob}{ys:List VT},rI k l=some r→bU W N cs l ys→bU W N [] l ys
 | [],_,_,ys,_,h=>by simpa[bU]using h
 | a::l,k,r,[],_,h=>by simp only[bU]at h
 | a::l,k,r,y::ys,hb,h=>by
  simp only[bU]at h⊢
  unfold rI at hb
  split at hb
  ·rename_i a' ha
   split at hb
   ·rename_i l' os hl
    obtain⟨z,rfl⟩:=Qe (k:=k) (by rw[ha];rfl)
    exact⟨h.1,Qf hl h.2⟩
   cases hb
  ·rename_i a' o r' ha
   split at hb
   ·rename_i l' os hl
    obtain⟨z,rfl⟩:=Qe (k:=k) (by rw[ha];rfl)
    exact⟨h.1,Qf hl h.2⟩
   cases hb
  cases hb
theorem Qg {W:World}{N:Nat→Prop}{cs:List Co}{k:Nat}{r:FV}{b:FV×List Ob}{u:Value}{ys:List VT}(hb:zT k r=some b) (h:yK W N cs r u ys):yK W N [] r u ys:=by
 cases r with
 | any=>exact h.elim
 | tup l=>exact h.elim
 | one a=>
  unfold zT at hb
  dsimp only at hb
  split at hb
  ·rename_i a' os ha
   obtain⟨z,rfl⟩:=Qe (k:=k) (by rw[ha];rfl)
   exact h
  cases hb
 | agg l=>
  unfold zT at hb
  dsimp only at hb
  split at hb
  ·rename_i l' os hl
   exact⟨h.1,Qf hl h.2⟩
  cases hb
theorem BQ {W:World}{N:Nat→Prop}{cs:List Co}:∀{l:List FV}{k:Nat}{b:List FV×List Ob}{us:List Value}{ys:List VT},Ea k l=some b→zP W N cs l us ys→zP W N [] l us ys
 | [],_,_,us,ys,_,h=>h
 | a::l,k,b,us,ys,hb,⟨v,vs,y1,y2,h1,h2,h3,h4⟩=>by
  unfold Ea at hb
  split at hb
  ·rename_i a' os ha
   split at hb
   ·rename_i l' os' hl
    exact⟨v,vs,y1,y2,h1,h2,Qg ha h3,BQ hl h4⟩
   cases hb
  cases hb
theorem Lx {W:World}{N:Nat→Prop}{cs:List Co}{k:Nat}{r:FV}{b:FV×List Ob}{u:Value}{ys:List VT}(hb:kB k r=some b) (h:RO W N cs r u ys):RO W N [] r u ys:=by
 cases r with
 | tup l=>
  obtain⟨vs,e,h⟩:=h
  unfold kB at hb
  dsimp only at hb
  split at hb
  ·rename_i l' os hl
   exact⟨vs,e,BQ hl h⟩
  cases hb
 | any=>exact h.elim
 | one a=>exact Qg (r:=.one a) hb h
 | agg l=>exact Qg (r:=.agg l) hb h
section
variable {x:Cx}{g g':Nat→FV}{ob ob':List (Option Ob)}{cs cs':List Co}{ts ts':Array Value}{W W':World}{T:List (Nat×TI)}{Q:Post}{ops:Array Oper}{rest:List Oper}{d:Nat}{op:Op}{ty:TypeId}{pos:String}{af:Array Edge}{gd:Option (Nat×Bool)}
theorem kV {cf:Operand}{f:FuncId}{us0 us:List Value}{aa:Array Operand}{ats:Array TypeId}(hf:CallOk x.P f) (e0:Act.eval ⟨ts,[]⟩ cf=.func (.func f) us0.toArray us.toArray):
  (execOp (Act.eval ⟨ts,[]⟩) ⟨some d,.call ⟨.value cf,aa,ats⟩,ty,pos,af,gd⟩).run x.P W=.ok (.enter f (us0++aa.toList.map (Act.eval ⟨ts,[]⟩)++us).toArray) W:=by
 obtain⟨fn,c,h1,h2,h3⟩:=hf
 have e1:aa.map (Act.eval ⟨ts,[]⟩)=(aa.toList.map (Act.eval ⟨ts,[]⟩)).toArray:=by apply Array.ext';simp only[Array.toList_map]
 simp[execOp,resolve,e0,Deferred.ofValue,invoke,e1,callFunc,h1,h3]
 intro hn
 rw[hn]at h2
 simp at h2
theorem tH {fresh:Bool}{f:FuncId}{args:List FV}{R:List Lt→FV→Prop}{lent:List Lt}{K:List Nat}{aa:Array Operand}{ats:Array TypeId}{cf:Operand}{fst caps:List Tr}{key:Nat}(hS:aE fresh x.P f lent (dE fst++args++dE caps) R) (hf:CallOk x.P f) (hc:Tz x g cf f fst caps) (hK:eQ ob K K lent) (hnd:K.Nodup) (ha:kM x.n g K aa.toList args) (hk:eN ob key=true) (hb:∀l r,R l r→l.length=K.length→(kB key r).isSome=true∧∃ok,eH K l ok):
  OS x ⟨some d,.call ⟨.value cf,aa,ats⟩,ty,pos,af,gd⟩ g ob K (fun g' ob'=>∃l r v os ok,R l r∧l.length=K.length∧kB key r=some (v,os)∧eH K l ok∧g'=bH g d v∧ob'=cE ob K ok++os.map some):=by
 intro cs ts W hR K' Q kk
 obtain⟨us0,us,e0,hfst,hcap⟩:=hc ob cs ts W hR
 unfold Oper.wp
 rw[kV hf e0]
 refine(xZ hS hK hnd ha hfst hcap hR).mono fun e W' hE=>?_
 obtain⟨v,lent',r,ys,cl,N2,rfl,hr,hl1,hl2,hro,hok,hndy,fin⟩:=hE
 obtain⟨hb1,ok,hbk⟩:=hb _ r hr hl1
 obtain⟨⟨v',os⟩,hbn⟩:=Option.isSome_iff_exists.1 hb1
 obtain⟨csn,e1,e2,e3,e4⟩:=yW (Lx hbn hro) hok hbn
 obtain⟨hN,hfin⟩:=fin ok hbk os csn e1 (fun b=>by rw[e2];exact bC _) e3
 have hk:=Nat.eq_of_beq_eq_true hk
 have hpl:(dS cs K cl).length=key:=by rw[kH,←hR.len,hk]
 obtain⟨g1,g2⟩:=e4 _ (dS cs K cl++csn) hN (by simp[hpl,e1]) (fun i _=>by
  unfold co
  rw[List.getElem?_append_right (by omega),hpl,show key+i-key=i by omega])
 obtain⟨m1,m2⟩:=hfin g2
 exact kk _ _ _ _ _ ⟨lent',r,v',os,ok,hr,hl1,hbn,hbk,rfl,rfl⟩ (m1.put d g1) ((m2 (some d)).then_put v)
theorem HZ {fresh:Bool}{f:FuncId}{args:List FV}{R:List Lt→FV→Prop}{lent:List Lt}{K:List Nat}{aa:Array Operand}{ats:Array TypeId}{cf:Operand}{fst caps:List Tr}{i k:Nat}(hS:aE fresh x.P f lent (dE fst++args++dE caps) R) (hf:CallOk x.P f) (hc:Tz x g cf f fst caps) (hK:eQ ob K K lent) (hnd:K.Nodup) (ha:kM x.n g K aa.toList args) (hi:K[i]? =some k) (hb:∀l r,R l r→l.length=K.length→(∃o n,r=.one (.sl i o n))∧∃ok,eH K l ok):
  OS x ⟨some d,.call ⟨.value cf,aa,ats⟩,ty,pos,af,gd⟩ g ob K (fun g' ob'=>∃l o n ok,R l (.one (.sl i o n))∧l.length=K.length∧eH K l ok∧g'=bH g d (.one (.sl k o n))∧ob'=cE ob K ok):=by
 intro cs ts W hR K' Q kk
 obtain⟨us0,us,e0,hfst,hcap⟩:=hc ob cs ts W hR
 unfold Oper.wp
 rw[kV hf e0]
 refine(xZ hS hK hnd ha hfst hcap hR).mono fun e W' hE=>?_
 obtain⟨v,lent',r,ys,cl,N2,rfl,hr,hl1,hl2,hro,hok,hndy,fin⟩:=hE
 obtain⟨⟨o,n,rfl⟩,ok,hbk⟩:=hb _ r hr hl1
 obtain⟨hN,hfin⟩:=fin ok hbk [] [] rfl (fun b=>by simp[aQ]) (by simp[aQ])
 obtain⟨m1,m2⟩:=hfin (fun i o h=>by simp at h)
 have hkl:k<cs.length:=by
  obtain⟨a,l',_,_,h2⟩:=lG hK hi
  have:=(List.getElem?_eq_some_iff.1 h2).1
  rw[←hR.len]
  exact this
 simp only[List.map_nil,List.append_nil]at m1 m2
 refine kk _ _ _ _ _ ⟨lent',o,n,ok,hr,hl1,hbk,rfl,rfl⟩ (m1.put d ?_) ((m2 (some d)).then_put v)
 obtain⟨z,rfl,rfl,hz⟩:=hro
 cases z with
 | s b c t z n l=>simp only[CR]at hz
 | p b t l=>simp only[CR]at hz
 | w u=>
  simp only[CR,AR]at hz
  simp only[bO,cD,AR,VT.val]
  rw[Bv hnd hl2 hi hkl]
  exact⟨by rw[kH];exact hkl,hz.2⟩
theorem El {late:Nat→Bool}{K fr:List Nat}{fuel:Nat}{listed:Array Bool}{o:Oper}{Wr:List Nat}{R:(Nat→FV)→List (Option Ob)→Prop}(i:Nat) (hi:ops[i]? =some o) (hd:o.dst=some d) (hw:bI ops x.n g o.guard=some true) (h:OS x o g ob Wr R) (hW:∀k∈K,k∉Wr)
  (hg:∀g' ob',R g' ob'→(∃v,g'=bH g d v)∧∀k∈K,ob'[k]? =ob[k]?) (k:∀g' ob',R g' ob'→WD x ops Q late K (d::fr) true fuel (listed.setIfInBounds i true) g' ob'):WO x ops Q late K fr true fuel listed i g ob:=by
 refine TQ i hi hw h true (fun _=>⟨rfl,hW⟩) (fun _=>rfl) (fun _ g' ob' hR=>?_) fun g' ob' hR=>by rw[hd];exact k g' ob' hR
 obtain⟨⟨v,h1⟩,h2⟩:=hg g' ob' hR
 exact⟨by rw[hd,h1];exact rE,h2⟩
theorem KX {late:Nat→Bool}{K fr:List Nat}{fuel:Nat}{listed:Array Bool}{o:Oper}{Wr:List Nat}{R:(Nat→FV)→List (Option Ob)→Prop}(i:Nat) (hr:Region.ready .any ops listed=[i]) (hi:ops[i]? =some o) (hd:o.dst=some d) (hw:bI ops x.n g o.guard=some true) (h:OS x o g ob Wr R) (hW:∀k∈K,k∉Wr)
  (hg:∀g' ob',R g' ob'→(∃v,g'=bH g d v)∧∀k∈K,ob'[k]? =ob[k]?) (k:∀g' ob',R g' ob'→WD x ops Q late K (d::fr) true fuel (listed.setIfInBounds i true) g' ob'):WD x ops Q late K fr true (fuel+1) listed g ob:=
 WO.one hr (El i hi hd hw h hW hg k)
theorem kW {K0:List Nat}:∀{l:List Lt}{a b:List (Option Ob)},eH K0 l a→eH K0 l b→a=b
 | [],a,b,h,h'=>by
  simp only[eH]at h h'
  rw[h,h']
 | x::l,[],b,h,_=>by simp only[eH]at h
 | x::l,a::al,[],_,h=>by simp only[eH]at h
 | x::l,a::al,b::bl,h,h'=>by
  simp only[eH]at h h'
  obtain⟨⟨l1,e1,e2⟩,h2⟩:=h
  obtain⟨⟨l2,f1,f2⟩,h3⟩:=h'
  rw[e1]at f1
  injection f1 with f1
  subst f1
  rw[e2,f2,kW h2 h3]
def Rt (l0:List Lt) (r0:FV):List Lt→FV→Prop:=fun l r=>l=l0∧r=r0
theorem AU {i:Nat}{v:FV}(hi:Nat.blt i x.n=true) (h:∀W N cs u,bO W N cs (g i) u→bO W N cs v u):Sub x g ob (bH g i v) ob:=by
 rintro ts W ⟨cs,hR⟩
 have hi:i<x.n:=by simpa[Nat.blt,Nat.lt_iff_add_one_le]using hi
 obtain⟨u,e1,e2⟩:=hR.fv hi
 have e3:ts.setIfInBounds i u=ts:=by
  apply Array.ext_getElem?
  intro j
  by_cases hj:i=j
  ·subst hj
   have:i<ts.size:=by rw[hR.1];exact hi
   rw[Array.getElem?_setIfInBounds_self_of_lt this,e1]
  rw[Array.getElem?_setIfInBounds_ne hj]
 have:=hR.put i (h _ _ _ _ e2)
 rw[e3]at this
 exact⟨cs,this⟩
theorem Nw {i t:Nat}{o:Bool}{l:List Tr}(hi:Nat.blt i x.n=true) (h:g i=.one (.t (.p o t l))):Sub x g ob (bH g i (.one (.ef l 0))) ob:=AU hi fun W N cs u hu=>by
 rw[h]at hu
 simp only[bO,cD,AR,FR]at hu⊢
 obtain⟨ad,h1,h2,h3⟩:=hu
 exact⟨ad,h2,h3,by rw[Ei];exact h1⟩
theorem Vd {β:Type}:∀{o:Nat}{l:List AV}{k:List AV→Option β},o≤l.length→dp o l k=k (l.drop o)
 | 0,l,k,_=>by simp[dp]
 | o+1,[],k,h=>by simp at h
 | o+1,a::l,k,h=>by
  simp only[dp,List.drop_succ_cons]
  exact Vd (by simpa using h)
theorem Ve {β:Type}:∀{n:Nat}{l:List AV}{k:List AV→Option β},n≤l.length→tk n l k=k (l.take n)
 | 0,l,k,_=>by simp[tk]
 | n+1,[],k,h=>by simp at h
 | n+1,a::l,k,h=>by
  simp only[tk,List.take_succ_cons]
  exact Ve (by simpa using h)
theorem Qh {i:TI}{k o t z:Nat}{l us:List AV}(ho:cT ob k=some ⟨t,z,l⟩) (hx:(l.drop o).take us.length=us) (ha:i.agg=true) (hn:us.length=i.size) (h0:us≠[]) (hr:gU us=true):tD ob i (.one (.pt k o))=some (True,.agg us):=by
 have hl:us.length≤(l.drop o).length:=by
  have:=congrArg List.length hx
  rw[eJ]at this
  omega
 have h1:0<us.length:=List.length_pos_iff.2 h0
 have h2:o≤l.length:=by
  rw[List.length_drop]at hl
  omega
 unfold tD
 dsimp only
 rw[ho]
 dsimp only
 unfold HK
 rw[Vd h2,ha]
 dsimp only
 rw[Ve (by omega),←hn,hx]
 simp[Ik,hr,ev]
theorem UG {t e z by_:Nat}{zz:Value}{ti:Bool}{ts0:Nat}{z0:List Value}{a:Operand}{t2:TypeId}{m:Nat}(hT:cN x.P T) (ht:cP T t=some ⟨ti,ts0,z0,.sl e z by_ zz⟩) (ha:mV (lk x.n g a)=some m):
  OS x ⟨some d,.binOp .eql t a (.const (.slice none 0 0)) t2,ty,pos,af,gd⟩ g ob [] (fun g' ob'=>∃q:Bool,(q=true→m=0)∧g'=bH g d (.one (tv (.bool q)))∧ob'=ob):=by
 obtain⟨hts,_⟩:=(eY hT ht).2.2.2
 obtain⟨i,e1,_,_⟩:=hts
 intro cs ts W hR K Q kk
 obtain⟨A,c,hu⟩:=Ul (hR.lk a) ha
 have h0:∀A c,Act.eval ⟨ts,[]⟩ a=.slice A m c→(A=none→m=0):=by
  intro A c hu hA
  subst hA
  have hv:=hR.lk a
  rw[hu]at hv
  cases hlk:lk x.n g a with
  | any=>rw[hlk]at ha;simp[mV]at ha
  | agg l=>rw[hlk]at ha;simp[mV]at ha
  | tup l=>rw[hlk]at ha;simp[mV]at ha
  | one av=>
   rw[hlk]at hv ha
   cases av with
   | pt=>simp[mV]at ha
   | ef=>simp[mV]at ha
   | fn=>simp[mV]at ha
   | sl k o n=>
    simp only[bO,cD,AR]at hv
    cases hb:(co cs k).b with
    | none=>
     rw[hb]at hv
     obtain⟨_,h1,_,h3⟩:=hv
     injection h3
    | some b=>
     rw[hb]at hv
     obtain⟨_,_,_,h3,_⟩:=hv
     injection h3 with h3
     cases h3
   | t y=>
    cases y with
    | p=>simp[mV]at ha
    | f=>simp[mV]at ha
    | a=>simp[mV]at ha
    | s o t z n l=>
     simp only[bO,cD,AR,FR]at hv
     obtain⟨A,c,h1,_,_,_,h5⟩:=hv
     injection h1 with h1 h2 _
     subst h1
     rcases h5 with h5 | ⟨ad,h5,_⟩
     ·omega
     cases h5
    | v w=>
     simp only[bO,cD,AR,FR]at hv
     subst hv
     unfold mV at ha
     split at ha
     ·rename_i h9
      cases h9
     ·rename_i h9
      cases h9
     ·rename_i h9
      injection ha with ha
      exact ha.symm
     cases ha
 have hrun:(execOp (Act.eval ⟨ts,[]⟩) ⟨some d,.binOp .eql t a (.const (.slice none 0 0)) t2,ty,pos,af,gd⟩).run x.P W=.ok (.value (.bool A.isNone)) W:=by
  have h3:∀A:Option Addr,(Op.equal t (.slice A m c) (.slice none 0 0)).run x.P W=.ok A.isNone W:=fun A=>by
   show(Op.equalIn (9999+1) t (.slice A m c) (.slice none 0 0)).run x.P W=_
   rw[Op.equalIn]
   simp only[Sem.run_bind,run_underlying e1,Result.andThen_ok]
   cases A <;> rfl
  have h4:Act.eval ⟨ts,[]⟩ (.const (.slice none 0 0))=.slice none 0 0:=rfl
  simp only[execOp,hu,h4,eqGuard_at_slice,binOp,Sem.run_bind,Sem.run_pure,Result.andThen_ok,h3]
 refine iL hrun (kk _ _ _ _ _ ⟨A.isNone,fun h=>h0 A c hu (by simpa using h),rfl,rfl⟩ (hR.put d (v:=.one (tv (.bool A.isNone))) (by simp[bO,cD,tv,AR,FR])) (.put d _))
theorem UH {t e z by_ key:Nat}{zz:Value}{ti:Bool}{ts0:Nat}{z0:List Value}(hT:cN x.P T) (ht:cP T t=some ⟨ti,ts0,z0,.sl e z by_ zz⟩) (hk:eN ob key=true):OS x ⟨some d,.buildSlice t 0 #[],ty,pos,af,gd⟩ g ob [] (fun g' ob2=>g'=bH g d (.one (.sl key 0 0))∧ob2=ob++[some ⟨e,z,[]⟩]):=by
 obtain⟨_,ht',i,hi,hz,hsize,hby,hzs,hsz⟩:=(eY hT ht).2.2.2
 have hk:=Nat.eq_of_beq_eq_true hk
 subst hk
 intro cs ts W hR K Q kk
 have hrun:(execOp (Act.eval ⟨ts,[]⟩) ⟨some d,.buildSlice t 0 #[],ty,pos,af,gd⟩).run x.P W=.ok (.value (.slice (some ⟨W.heap.size,0,none⟩) 0 0)) (W.alloc (.cells #[] e)):=by
  simp[execOp,Instr.buildSlice,run_underlying ht',sizeOf,typeInfo,hi,Instr.fill,newRow]
  congr 2
  apply Array.ext'
  simp
 obtain⟨m1,m2⟩:=hR.made (t:=e) (z:=z) (c:=0) (l:=[]) (us:=[]) (by simp[ARL]) rfl (by cases hq:Nat.beq z 0 <;> simp) (Nat.zero_le _)
 refine iL hrun (kk _ _ _ _ _ ⟨rfl,rfl⟩ (m1.put d ?_) ((m2 (some d)).then_put _))
 refine jI ?_
 simp only[AR,hR.len,iV]
 exact⟨by simp,0,0,rfl,bC _,by omega,fun _=>rfl,fun _=>rfl⟩
theorem IA {z:Array Value}{n:Nat}(h0:0<z.size):(Builtin.zeroCells z n).toList=iQ z.toList n:=by
 unfold Builtin.zeroCells
 apply List.ext_getElem?
 intro j
 simp only[Array.toList_map,Array.toList_range,List.getElem?_map]
 by_cases hj:j<n*z.size
 ·rw[List.getElem?_range hj,Dy (by simpa using hj)]
  simp only[Option.map_some]
  have hm:j%z.size<z.size:=Nat.mod_lt _ h0
  rw[getElem!_pos z _ hm]
  simp[hm]
 rw[List.getElem?_eq_none (by simp;omega),List.getElem?_eq_none (by simp[tG];omega)]
 rfl
theorem BR:∀{us:List Value},fJ (us.map tv)=true→∀n,fJ ((iQ us n).map tv)=true
 | us,h,0=>rfl
 | us,h,n+1=>by
  have ih:=BR h n
  have app:∀(a b:List AV),fJ a=true→fJ b=true→fJ (a++b)=true:=by
   intro a b
   induction a with
   | nil=>intro _ h;exact h
   | cons c a ih=>
    intro h1 h2
    simp only[fJ,Bool.and_eq_true]at h1
    simp only[List.cons_append,fJ,Bool.and_eq_true]
    exact⟨h1.1,ih h1.2 h2⟩
  unfold iQ
  rw[List.map_append]
  exact app _ _ h ih
theorem UI {t e z by_ k o n:Nat}{zz:Value}{ti:Bool}{ts0:Nat}{z0:List Value}{bo:Ob}{a:Operand}(hT:cN x.P T) (ht:cP T t=some ⟨ti,ts0,z0,.sl e z by_ zz⟩) (ha:lk x.n g a=.one (.sl k o n)) (ho:cT ob k=some bo) (hle:o+n*z≤bo.l.length) (hlo:fJ (zz.cells.toList.map tv)=true):
  OS x ⟨none,.call ⟨.builtin .clear, #[a], #[t]⟩,ty,pos,af,gd⟩ g ob [k] (fun g' ob2=>g'=g∧ob2=ob.set k (some ⟨bo.t,bo.z,eT bo.l o ((iQ zz.cells.toList n).map tv)⟩)):=by
 obtain⟨_,ht',i,hi,hz,hsize,hby,hzs,hsz⟩:=(eY hT ht).2.2.2
 have hk:=dM ho
 intro cs ts W hR K Q kk
 have hu:=hR.lk a
 rw[ha]at hu
 simp only[bO,cD,AR]at hu
 have idle:n=0→(execOp (Act.eval ⟨ts,[]⟩) ⟨none,.call ⟨.builtin .clear, #[a], #[t]⟩,ty,pos,af,gd⟩).run x.P W=.ok (.value (.tuple #[])) W→Oper.wp x.P ⟨none,.call ⟨.builtin .clear, #[a], #[t]⟩,ty,pos,af,gd⟩ ⟨ts,[]⟩ W K Q:=fun h0 hrun=>by
  subst h0
  unfold Oper.wp
  rw[hrun]
  have e1:eT bo.l o ((iQ zz.cells.toList 0).map tv)=bo.l:=by simp[eT,iQ]
  have e2:ob.set k (some ⟨bo.t,bo.z,eT bo.l o ((iQ zz.cells.toList 0).map tv)⟩)=ob:=by
   rw[e1]
   apply List.ext_getElem?
   intro j
   by_cases hj:k=j
   ·subst hj
    rw[List.getElem?_set_self (List.getElem?_eq_some_iff.1 hk).1,hk]
   rw[List.getElem?_set_ne hj]
  refine kk g _ cs ts W ⟨rfl,rfl⟩ (by rw[e2];exact hR) (by rw[e2];exact⟨.refl,fun _ _ _=>rfl,bC _,fun _ _ _=>rfl,fun _ h=>.inl h,fun _ _=>rfl⟩)
 cases hb:(co cs k).b with
 | none=>
  rw[hb]at hu
  obtain⟨_,h0,_,e⟩:=hu
  exact idle h0 (by simp[execOp,resolve,invoke,builtin,e,Builtin.clear_,run_underlying ht'])
 | some b=>
  rw[hb]at hu
  obtain⟨_,o',c,e,h1,h2,h3,_⟩:=hu
  rcases Nat.eq_zero_or_pos n with h0 | h0
  ·subst h0
   exact idle rfl (by simp[execOp,resolve,invoke,builtin,e,Builtin.clear_,run_underlying ht'])
  obtain rfl:=h3 (.inl h0)
  have hzl:((iQ zz.cells.toList n).map tv).length=n*z:=by simp[tG,hzs]
  obtain⟨W',c',hst,m1,m2⟩:=hR.over (us:=(iQ zz.cells.toList n).map tv) (vs:=iQ zz.cells.toList n) (o:=o') hk hb (qY _) (Fo _) (BR hlo n) (by rw[hzl];exact hle)
  have hd:∃m,n=m+1:=⟨n-1,by omega⟩
  obtain⟨m,hm⟩:=hd
  have hrun:(execOp (Act.eval ⟨ts,[]⟩) ⟨none,.call ⟨.builtin .clear, #[a], #[t]⟩,ty,pos,af,gd⟩).run x.P W=.ok (.value (.tuple #[])) W':=by
   rw[←IA (by omega),hm]at hst
   rw[hm]at e
   simp[execOp,resolve,invoke,builtin,e,Builtin.clear_,run_underlying ht',zeroValue,typeInfo,hi,hz,hst]
  unfold Oper.wp
  rw[hrun]
  exact kk _ _ _ _ _ ⟨rfl,rfl⟩ m1 (m2 none)
end
section
variable {x:Cx}{g:Nat→FV}{ob ob':List (Option Ob)}{Q:Post}{ops:Array Oper}{rest:List Oper}{d:Nat}{op:Op}{ty:TypeId}{pos:String}{af:Array Edge}{gd:Option (Nat×Bool)}{C:Prop}{v:FV}
theorem cl {fresh:Bool}{f:FuncId}{lent lent':List Lt}{args:List FV}{r:FV}{os:List Ob}{aa:Array Operand}{ats:Array TypeId}(key:Nat) (K:List Nat) (hS:aE fresh x.P f lent args (Rt lent' r)) (hf:CallOk x.P f) (hK:eQ ob K K lent) (ha:kM x.n g K aa.toList args){ok:List (Option Ob)}(hbk:eH K lent' ok) (k:WL x ops rest (bH g d v) (cE ob K ok++os.map some) Q) (hw:bI ops x.n g gd=some true:=by rfl) (hk:eN ob key=true:=by rfl) (hnd:K.Nodup:=by decide) (hb:kB key r=some (v,os):=by rfl):
  WL x ops (⟨some d,.call ⟨.value (.func f),aa,ats⟩,ty,pos,af,gd⟩::rest) g ob Q:=by
 have e:dE []++args++dE []=args:=by simp[dE]
 refine jT (tH (by rw[e];exact hS) hf (tZ f) hK hnd ha hk (by rintro _ _ ⟨rfl,rfl⟩ _;exact⟨by rw[hb];rfl,ok,hbk⟩)) hw ?_
 rintro _ _ ⟨l,r',v',os',ok',⟨rfl,rfl⟩,_,h,h9,rfl,rfl⟩
 obtain rfl:=kW hbk h9
 rw[hb]at h
 injection h with h
 injection h with h1 h2
 subst h1 h2
 exact k
theorem clx {fresh:Bool}{f:FuncId}{lent:List Lt}{args:List FV}{R:List Lt→FV→Prop}{aa:Array Operand}{ats:Array TypeId}(key:Nat) (K:List Nat) (hS:aE fresh x.P f lent args R) (hf:CallOk x.P f) (hK:eQ ob K K lent) (ha:kM x.n g K aa.toList args) (k:∀l r,R l r→∃v os ok,kB key r=some (v,os)∧eH K l ok∧WL x ops rest (bH g d v) (cE ob K ok++os.map some) Q) (hw:bI ops x.n g gd=some true:=by rfl) (hk:eN ob key=true:=by rfl) (hnd:K.Nodup:=by decide):
  WL x ops (⟨some d,.call ⟨.value (.func f),aa,ats⟩,ty,pos,af,gd⟩::rest) g ob Q:=by
 have e:dE []++args++dE []=args:=by simp[dE]
 refine jT (tH (by rw[e];exact hS) hf (tZ f) hK hnd ha hk (fun l r h _=>by obtain⟨v,os,ok,h1,h2,_⟩:=k l r h;exact⟨by rw[h1];rfl,ok,h2⟩)) hw ?_
 rintro _ _ ⟨l,r',v',os',ok',h0,_,h,h9,rfl,rfl⟩
 obtain⟨v,os,ok,h1,h8,h2⟩:=k l r' h0
 obtain rfl:=kW h8 h9
 rw[h]at h1
 injection h1 with h1
 injection h1 with h3 h4
 subst h3 h4
 exact h2
theorem clr {fresh:Bool}{f:FuncId}{lent lent':List Lt}{args:List FV}{aa:Array Operand}{ats:Array TypeId}{i o n ky:Nat}(K:List Nat) (hS:aE fresh x.P f lent args (Rt lent' (.one (.sl i o n)))) (hf:CallOk x.P f) (hK:eQ ob K K lent) (ha:kM x.n g K aa.toList args){ok:List (Option Ob)}(hbk:eH K lent' ok) (k:WL x ops rest (bH g d (.one (.sl ky o n))) (cE ob K ok) Q) (hi:K[i]? =some ky:=by rfl) (hw:bI ops x.n g gd=some true:=by rfl) (hnd:K.Nodup:=by decide):
  WL x ops (⟨some d,.call ⟨.value (.func f),aa,ats⟩,ty,pos,af,gd⟩::rest) g ob Q:=by
 have e:dE []++args++dE []=args:=by simp[dE]
 refine jT (HZ (by rw[e];exact hS) hf (tZ f) hK hnd ha hi (by rintro _ _ ⟨rfl,rfl⟩ _;exact⟨⟨_,_,rfl⟩,ok,hbk⟩)) hw ?_
 rintro _ _ ⟨l,o',n',ok',⟨rfl,h⟩,_,h9,rfl,rfl⟩
 obtain rfl:=kW hbk h9
 injection h with h
 injection h with _ h1 h2
 subst h1 h2
 exact k
theorem ce {fresh:Bool}{f:FuncId}{al:List FV}{fst caps:List Tr}{r:FV}{os:List Ob}{cf:Operand}{aa:Array Operand}{ats:Array TypeId}(key:Nat) (args:List FV) (hc:lk x.n g cf=.one (.t (.f f fst caps))) (hS:aE fresh x.P f [] al (aT r)) (hf:CallOk x.P f) (ha:kM x.n g [] aa.toList args) (k:WL x ops rest (bH g d v) (ob++os.map some) Q) (hw:bI ops x.n g gd=some true:=by rfl) (hk:eN ob key=true:=by rfl) (hb:kB key r=some (v,os):=by rfl) (he:dE fst++args++dE caps=al:=by rfl):
  WL x ops (⟨some d,.call ⟨.value cf,aa,ats⟩,ty,pos,af,gd⟩::rest) g ob Q:=by
 subst he
 refine jT (tH hS hf (Xy hc) (K:=[]) rfl (by simp) ha hk (by rintro l _ rfl h0;obtain rfl:=List.eq_nil_of_length_eq_zero h0;exact⟨by rw[hb];rfl,[],rfl⟩)) hw ?_
 rintro _ _ ⟨l,r',v',os',ok',rfl,_,h,_,rfl,rfl⟩
 rw[hb]at h
 injection h with h
 injection h with h1 h2
 subst h1 h2
 simpa only[cE]using k
theorem nq {t e z by_ m:Nat}{zz:Value}{ti:Bool}{ts0:Nat}{z0:List Value}{a:Operand}{t2:TypeId}(k1:m=0→WL x ops rest (bH g d (.one (tv (.bool true)))) ob Q) (k2:WL x ops rest (bH g d (.one (tv (.bool false)))) ob Q) (hT:cN x.P ttab:=by exact aF) (ht:cP ttab t=some ⟨ti,ts0,z0,.sl e z by_ zz⟩:=by rfl) (ha:mV (lk x.n g a)=some m:=by rfl) (hw:bI ops x.n g gd=some true:=by rfl):
  WL x ops (⟨some d,.binOp .eql t a (.const (.slice none 0 0)) t2,ty,pos,af,gd⟩::rest) g ob Q:=
 jT (UG hT ht ha) hw (by
  rintro _ _ ⟨q,h,rfl,rfl⟩
  cases q with
  | true=>exact k1 (h rfl)
  | false=>exact k2)
theorem bs0 {t e z by_:Nat}{zz:Value}{ti:Bool}{ts0:Nat}{z0:List Value}(key:Nat) (k:WL x ops rest (bH g d (.one (.sl key 0 0))) (ob++[some ⟨e,z,[]⟩]) Q) (hT:cN x.P ttab:=by exact aF) (ht:cP ttab t=some ⟨ti,ts0,z0,.sl e z by_ zz⟩:=by rfl) (hk:eN ob key=true:=by rfl) (hw:bI ops x.n g gd=some true:=by rfl):
  WL x ops (⟨some d,.buildSlice t 0 #[],ty,pos,af,gd⟩::rest) g ob Q:=
 jT (UH hT ht hk) hw (by rintro _ _ ⟨rfl,rfl⟩;exact k)
theorem clear {t e z by_ ky o n t' z':Nat}{zz:Value}{ti:Bool}{ts0:Nat}{z0:List Value}{l l':List AV}{a:Operand}(hle:o+n*z≤l.length) (hl:eT l o ((iQ zz.cells.toList n).map tv)=l') (k:WL x ops rest g (ob.set ky (some ⟨t',z',l'⟩)) Q) (hT:cN x.P ttab:=by exact aF) (ht:cP ttab t=some ⟨ti,ts0,z0,.sl e z by_ zz⟩:=by rfl) (ha:lk x.n g a=.one (.sl ky o n):=by rfl) (ho:cT ob ky=some ⟨t',z',l⟩:=by rfl) (hlo:fJ (zz.cells.toList.map tv)=true:=by rfl) (hw:bI ops x.n g gd=some true:=by rfl):
  WL x ops (⟨none,.call ⟨.builtin .clear, #[a], #[t]⟩,ty,pos,af,gd⟩::rest) g ob Q:=
 jT (UI hT ht ha ho hle hlo) hw (by rintro _ _ ⟨rfl,rfl⟩;subst hl;exact k)
theorem Oc {t ky o t' z':Nat}{ti:TI}{a:Operand}{l us:List AV}(hx:(l.drop o).take us.length=us) (k:WL x ops rest (bH g d (.agg us)) ob Q) (hT:cN x.P ttab:=by exact aF) (hw:bI ops x.n g gd=some true:=by rfl) (hti:cP ttab t=some ti:=by rfl) (hlk:lk x.n g a=.one (.pt ky o):=by rfl) (ho:cT ob ky=some ⟨t',z',l⟩:=by rfl) (ha:ti.agg=true:=by rfl) (hn:us.length=ti.size:=by rfl) (h0:us≠[]:=by exact fun h=>by cases h) (hr:gU us=true:=by rfl):
  WL x ops (⟨some d,.load t a,ty,pos,af,gd⟩::rest) g ob Q:=HR hT hw hti (by rw[hlk];exact Qh ho hx ha hn h0 hr) k
variable {late:Nat→Bool}{K fr:List Nat}{on:Bool}{fuel:Nat}{listed:Array Bool}
theorem sP {t ky o t' z':Nat}{ti:TI}{a:Operand}{l us:List AV}(i:Nat) (hx:(l.drop o).take us.length=us) (k:WD x ops Q late K fr true fuel (listed.setIfInBounds i true) (bH g d (.agg us)) ob) (hT:cN x.P ttab:=by exact aF) (hi:ops[i]? =some ⟨some d,.load t a,ty,pos,af,gd⟩:=by rfl) (hst:mX ops late listed i=true:=by kernel_rfl) (hw:bI ops x.n g gd=some true:=by rfl) (hti:cP ttab t=some ti:=by rfl) (hlk:lk x.n g a=.one (.pt ky o):=by rfl) (hK:K.contains ky=true:=by rfl) (ho:cT ob ky=some ⟨t',z',l⟩:=by rfl) (ha:ti.agg=true:=by rfl) (hn:us.length=ti.size:=by rfl) (h0:us≠[]:=by exact fun h=>by cases h) (hr:gU us=true:=by rfl):
  WD x ops Q late K fr true (fuel+1) listed g ob:=dl i hT hi hst hw hti hlk hK (Qh ho hx ha hn h0 hr) k
theorem Tp {t:Nat}{ti:TI}{a:Operand}(i:Nat) (k:WD x ops Q late K (d::fr) true fuel (listed.setIfInBounds i true) (bH g d v) ob) (hT:cN x.P ttab:=by exact aF) (hi:ops[i]? =some ⟨some d,.load t a,ty,pos,af,gd⟩:=by rfl) (hw:bI ops x.n g gd=some true:=by rfl) (hti:cP ttab t=some ti:=by rfl) (h:tD ob ti (lk x.n g a)=some (C,v):=by rfl):WO x ops Q late K fr true fuel listed i g ob:=
 Gy (v:=v) i hi rfl hw (Xn hT hti h) (by rintro _ _ ⟨rfl,rfl⟩;exact⟨rfl,fun _ _=>rfl⟩) (by rintro _ _ ⟨rfl,rfl⟩;exact k)
theorem KB {fresh:Bool}{f:FuncId}{lent lent':List Lt}{args:List FV}{r:FV}{os:List Ob}{aa:Array Operand}{ats:Array TypeId}(i key:Nat) (Kl:List Nat) (hi:ops[i]? =some ⟨some d,.call ⟨.value (.func f),aa,ats⟩,ty,pos,af,gd⟩) (hS:aE fresh x.P f lent args (Rt lent' r)) (hf:CallOk x.P f) (hK:eQ ob Kl Kl lent) (ha:kM x.n g Kl aa.toList args){ok:List (Option Ob)}(hbk:eH Kl lent' ok) (hke:jA ob (cE ob Kl ok++os.map some) K) (k:WD x ops Q late K (d::fr) true fuel (listed.setIfInBounds i true) (bH g d v) (cE ob Kl ok++os.map some)) (hw:bI ops x.n g gd=some true:=by rfl) (hk:eN ob key=true:=by rfl) (hnd:Kl.Nodup:=by decide) (hdis:∀k∈K,k∉Kl:=by decide) (hb:kB key r=some (v,os):=by rfl):
  WO x ops Q late K fr true fuel listed i g ob:=by
 have e:dE []++args++dE []=args:=by simp[dE]
 refine El i hi rfl hw (tH (by rw[e];exact hS) hf (tZ f) hK hnd ha hk (by rintro _ _ ⟨rfl,rfl⟩ _;exact⟨by rw[hb];rfl,ok,hbk⟩)) hdis ?_ ?_
 ·rintro _ _ ⟨l,r',v',os',ok',⟨rfl,rfl⟩,_,h,h9,rfl,rfl⟩
  obtain rfl:=kW hbk h9
  rw[hb]at h
  injection h with h
  injection h with h1 h2
  subst h1 h2
  exact⟨⟨_,rfl⟩,gN hke⟩
 rintro _ _ ⟨l,r',v',os',ok',⟨rfl,rfl⟩,_,h,h9,rfl,rfl⟩
 obtain rfl:=kW hbk h9
 rw[hb]at h
 injection h with h
 injection h with h1 h2
 subst h1 h2
 exact k
theorem Tv {fresh:Bool}{f:FuncId}{lent lent':List Lt}{args:List FV}{r:FV}{os:List Ob}{aa:Array Operand}{ats:Array TypeId}(i key:Nat) (Kl:List Nat) (hi:ops[i]? =some ⟨some d,.call ⟨.value (.func f),aa,ats⟩,ty,pos,af,gd⟩) (hS:aE fresh x.P f lent args (Rt lent' r)) (hf:CallOk x.P f) (hK:eQ ob Kl Kl lent) (ha:kM x.n g Kl aa.toList args){ok:List (Option Ob)}(hbk:eH Kl lent' ok) (hke:jA ob (cE ob Kl ok++os.map some) K) (k:WD x ops Q late K (d::fr) true fuel (listed.setIfInBounds i true) (bH g d v) (cE ob Kl ok++os.map some)) (hr:Region.ready .any ops listed=[i]:=by kernel_rfl) (hw:bI ops x.n g gd=some true:=by rfl) (hk:eN ob key=true:=by rfl) (hnd:Kl.Nodup:=by decide) (hdis:∀k∈K,k∉Kl:=by decide) (hb:kB key r=some (v,os):=by rfl):
  WD x ops Q late K fr true (fuel+1) listed g ob:=
 WO.one hr (KB i key Kl hi hS hf hK ha hbk hke k hw hk hnd hdis hb)
theorem yZ {fresh:Bool}{f:FuncId}{al:List FV}{fst caps:List Tr}{r:FV}{cf:Operand}{aa:Array Operand}{ats:Array TypeId}(i key:Nat) (args:List FV) (hi:ops[i]? =some ⟨some d,.call ⟨.value cf,aa,ats⟩,ty,pos,af,gd⟩) (hc:lk x.n g cf=.one (.t (.f f fst caps))) (hS:aE fresh x.P f [] al (aT r)) (hf:CallOk x.P f) (ha:kM x.n g [] aa.toList args) (k:WD x ops Q late K (d::fr) true fuel (listed.setIfInBounds i true) (bH g d v) ob) (hr:Region.ready .any ops listed=[i]:=by kernel_rfl) (hw:bI ops x.n g gd=some true:=by rfl) (hk:eN ob key=true:=by rfl) (hb:kB key r=some (v,[]):=by rfl) (he:dE fst++args++dE caps=al:=by rfl):
  WD x ops Q late K fr true (fuel+1) listed g ob:=by
 subst he
 refine KX i hr hi rfl hw (tH hS hf (Xy hc) (K:=[]) rfl (by simp) ha hk (by rintro l _ rfl h0;obtain rfl:=List.eq_nil_of_length_eq_zero h0;exact⟨by rw[hb];rfl,[],rfl⟩)) (by simp) ?_ ?_
 ·rintro _ _ ⟨l,r',v',os',ok',rfl,_,h,_,rfl,rfl⟩
  rw[hb]at h
  injection h with h
  injection h with h1 h2
  subst h1 h2
  simp only[List.map_nil,List.append_nil,cE]
  exact⟨⟨_,rfl⟩,fun _ _=>by trivial⟩
 rintro _ _ ⟨l,r',v',os',ok',rfl,_,h,_,rfl,rfl⟩
 rw[hb]at h
 injection h with h
 injection h with h1 h2
 subst h1 h2
 simpa only[List.map_nil,List.append_nil,cE]using k
theorem yI {m:Nat}(h0:x.c0.length=m) (τ:List Nat) (live:List (Nat×FV)) (os:List Ob) (hn:τ.Nodup) (ht:τ.take m=List.range m) (h1:tE τ g live) (h2:jB τ ob τ os):Sub x g ob (bP live) (os.map some):=
 su τ (fun k hk=>by
  rw[h0]at hk
  have h3:=congrArg (·[k]?) ht
  simpa[List.getElem?_take,hk]using h3) live os hn h1 h2
theorem aAZ {i k:Nat}{a0:AV}{y:Tr}{o:Ob}{fv fv':FV}(hi:Nat.blt i x.n=true) (hg:g i=fv) (ho:cT ob k=some o) (hf:FzF a0 y fv fv') (key:Mb x g ob k o a0 y) (hfr:fr.any (Nat.beq i)=true) (hK:K.contains k=false) (kk:WD x ops Q late K fr on fuel listed (bH g i fv') (ob.set k none)):WD x ops Q late K fr on fuel listed g ob:=fun Kp W1 cs ts W hR h1 h2 h3=>by
 obtain⟨m1,m2⟩:=Po hi hg ho hf hR (key _ _ _ hR)
 have hne:∀k'∈K,k≠k':=fun k' hk' e=>by
  subst e
  have:K.contains k=true:=by simpa using hk'
  rw[hK]at this
  cases this
 refine kk Kp W1 cs ts W m1 h1 h2 fun hon=>?_
 have hk:=h3 hon
 refine⟨hk.same,fun b hb=>?_,fun k' hk' o' ho'=>?_,fun j hj=>?_⟩
 ·rcases hk.free b hb with h4 | ⟨k2,hk2,o2,ho2,hb2⟩
  ·refine .inl fun hm=>h4 ?_
   have e:=sE (r':=aR none (co cs k)) (cJ hR.len (dM ho)) b
   have e1:(aQ ob cs).set k (aR none (co cs k))=aQ (ob.set k none) cs:=by
    have h5:=lC (ob:=ob) (cs:=cs) (k:=k) (o:=none) (c:=co cs k)
    rw[wC (by have:=(List.getElem?_eq_some_iff.1 (dM ho)).1;have:=hR.len;omega)]at h5
    exact h5.symm
   have e2:(aR none (co cs k)).S=[]:=by cases hb:(co cs k).b <;> simp[aR]
   rw[e1,e2,List.count_nil]at e
   have h6:=List.count_pos_iff.2 hm
   unfold eK at h6⊢
   exact List.count_pos_iff.1 (by omega)
  exact .inr ⟨k2,hk2,o2,by rw[List.getElem?_set_ne (hne k2 hk2)];exact ho2,hb2⟩
 ·rw[List.getElem?_set_ne (hne k' hk')]at ho'
  obtain⟨q1,q2⟩:=hk.ks k' hk' o' ho'
  exact⟨q1,dN (fun _ _=>rfl) (fun b hb=>⟨m2 b hb.1,hb.2⟩) .refl _ _ q2⟩
 obtain⟨u,q1,q2⟩:=hk.fv j hj
 refine⟨u,q1,?_⟩
 unfold mW at q2⊢
 cases hq:fr.any (Nat.beq j)with
 | true=>simp[bO,cD]
 | false=>
  rw[hq]at q2
  have hji:Nat.beq j i=false:=by
   cases hb:Nat.beq j i
   ·rfl
   rw[Nat.eq_of_beq_eq_true hb]at hq
   rw[hq]at hfr
   cases hfr
  simp only[cond_false,bH,hji]at q2⊢
  exact gI (fun _ _=>rfl) (fun b hb=>⟨m2 b hb.1,hb.2⟩) .refl _ _ q2
theorem qU {i k t z n t':Nat}{l:List Tr}{fv fv':FV}(hi:Nat.blt i x.n=true) (hg:g i=fv) (ho:cT ob k=some ⟨t,z,l.map .t⟩) (hz:l.length=n*z) (hf:FzF (.sl k 0 n) (.s false t' z n l) fv fv') (hfr:fr.any (Nat.beq i)=true) (hK:K.contains k=false) (kk:WD x ops Q late K fr on fuel listed (bH g i fv') (ob.set k none)):WD x ops Q late K fr on fuel listed g ob:=aAZ hi hg ho hf (Fa t' ho hz) hfr hK kk
theorem Hc {t len key:Nat}{ps:Array (Nat×Operand)}(i:Nat) (hi:ops[i]? =some ⟨some d,.buildSlice t len ps,ty,pos,af,gd⟩) (h:Iw ttab x.n g t len key ps.toList ob=some ob') (hke:jA ob ob' K) (k:WD x ops Q late K (d::fr) true fuel (listed.setIfInBounds i true) (bH g d (.one (.sl key 0 len))) ob') (hw:bI ops x.n g gd=some true:=by rfl) (hT:cN x.P ttab:=by exact aF):WO x ops Q late K fr true fuel listed i g ob:=
 Gy (v:=.one (.sl key 0 len)) i hi rfl hw (Xs hT h) (by rintro _ _ ⟨rfl,rfl⟩;exact⟨rfl,gN hke⟩) (by rintro _ _ ⟨rfl,rfl⟩;exact k)
theorem Tt {τ:List Nat}{a:Option Ob}{t z k k' o n:Nat}{l:List Tr}(h:τ[k]? =some k') (h2:a=some ⟨t,z,.sl k' o n::l.map .t⟩):Cg τ a ⟨t,z,.sl k o n::l.map .t⟩:=⟨_,by simp[renL,gR,h,Lw],h2⟩
end
theorem fQ {x:Cx}{g:Nat→FV}{ob:List (Option Ob)}{live:List (Nat×FV)}{os:List Ob}{m:Nat}(h0:x.c0.length=m) (τ:List Nat) (h2:jB τ ob τ os) (hn:τ.Nodup:=by decide) (ht:τ.take m=List.range m:=by rfl) (h1:tE τ g live:=by repeat' first | exact trivial | refine⟨rfl,?_⟩):Sub x g ob (bP live) (os.map some):=yI h0 τ live os hn ht h1 h2
end Go.Proofs.YtbbabfkgdnkehaaGreat
namespace Go.Proofs.YtbbabfkgdnkehaaGreat
open Go Go.ChangeShapes Go.WideShapes Go.ChangeAt Go.RowKit
def SM (w:World) (b:Nat):Prop:=b<w.heap.size
theorem IB {P:Program}{f:FuncId}{args:List FV}{b:Bool}{us:List Value}{W:World}(h:aE true P f [] args (aT (.one (tv (.bool b))))) (ha:eG W (SM W) [] args us):Calls P f us.toArray W (fun e W'=>e=.returned (.bool b)∧Below W.heap.size W W'):=by
 have h1:=h (SM W) W [] us ⟨Chg.refl _ _,by simp[cB,aQ],by simp[cB,aQ],by simp[cB,aQ],fun q hq=>by
  simp at hq
  subst hq
  refine⟨⟨rfl,fun k o hk=>by simp[cB]at hk⟩,?_⟩
  exact lX (fun _ _=>rfl) (fun b hb=>⟨⟨hb,by simp[cB,aQ]⟩,hb⟩) .refl _ _ ha⟩
 refine h1.mono fun e W' hE=>?_
 obtain⟨v,lent',cs',r,ys,rfl,⟨_,rfl⟩,hl,_,hcl,_,hL⟩:=hE
 obtain rfl:lent'=[]:=List.eq_nil_of_length_eq_zero hl
 obtain rfl:cs'=[]:=List.eq_nil_of_length_eq_zero hcl
 refine⟨?_,⟨hL.chg.os,hL.chg.tape,hL.chg.output,hL.chg.size,fun k hk=>hL.chg.block k hk (by simp[cB,aQ])⟩⟩
 have h2:=(Sh.off (hL.sh 0 rfl)).2
 obtain⟨z,rfl,rfl,h3⟩:=h2
 simp only[tv,CR,OR]at h3
 subst h3
 rfl
end Go.Proofs.YtbbabfkgdnkehaaGreat
namespace Go.Proofs.YtbbabfkgdnkehaaGreat
open Go Go.RowKit
section
variable {x:Cx}{g g':Nat→FV}{ob ob':List (Option Ob)}{cs cs':List Co}{ts ts':Array Value}{W W':World}{Q:Post}{ops:Array Oper}
theorem Qi {P:Program}{fresh:Bool}{f:FuncId}{args:List FV}{R:List Lt→FV→Prop}{us:List Value}(hS:aE fresh P f [] args R) (ha:eG W (fun b=>b<W.heap.size) [] args us):
  Calls P f us.toArray W (fun e W'=>∃v r ys,e=.returned v∧R [] r∧Below W.heap.size W W'∧VT.okL W' ys∧(∀b∈VT.fpL ys,W.heap.size≤b∧b<W'.heap.size)∧RO W' (fun b=>b<W'.heap.size) [] r v ys):=by
 have h:=hS (fun b=>b<W.heap.size) W [] us ⟨Chg.refl _ _,by simp[cB,aQ],by simp[cB,aQ],by simp[cB,aQ],fun q hq=>by
  simp at hq
  subst hq
  refine⟨⟨rfl,fun k o hk=>by simp[cB]at hk⟩,?_⟩
  exact lX (fun _ _=>rfl) (fun b hb=>⟨⟨hb,by simp[cB,aQ]⟩,hb⟩) .refl _ _ ha⟩
 refine h.mono fun e W' hE=>?_
 obtain⟨v,lent',cs',r,ys,rfl,hr,hl,_,hcl,_,hL⟩:=hE
 obtain rfl:lent'=[]:=List.eq_nil_of_length_eq_zero hl
 obtain rfl:cs'=[]:=List.eq_nil_of_length_eq_zero hcl
 have hL':Loc [] W W' [jK ys] _:=hL
 have hsh:=Sh.off (hL'.sh 0 rfl)
 refine⟨v,r,ys,rfl,hr,hL'.bel,hL'.get 0 rfl,fun b hb=>?_,?_⟩
 ·have:=hL'.blk b (by simpa[jK]using hb)
  exact⟨this.1.resolve_left (by simp),this.2⟩
 exact sF (fun _ _=>rfl) (fun b hb=>hb.2.1.1) .refl hsh.2
theorem Fw {K fr:List Nat}{Kp:Nat→Prop}{W1:World}{d:Nat}(hk:Kept x K fr Kp W1 g ob cs ts W) (hK1:∀b,Kp b→b<W1.heap.size) (hK2:W1.heap.size≤W.heap.size) (hb:Below W.heap.size W W') (hR':RelC x g' ob cs ts' W') (hg:∀j,j≠d→g' j=g j) (ht:∀j,j≠d→ts'[j]? =ts[j]?):Kept x K (d::fr) Kp W1 g' ob cs ts' W':=by
 have hkeep:∀b,Kp b→W'.heap[b]? =W.heap[b]? :=fun b h=>hb.block b (Nat.lt_of_lt_of_le (hK1 b h) hK2)
 have hN:∀b,(x.fr W ob cs b∧Kp b)→(x.fr W' ob cs b∧Kp b):=fun b h=>⟨rV h.1 hb.size (fun _ h=>.inl h),h.2⟩
 refine⟨fun b h=>(hkeep b h).trans (hk.same b h),hk.free,fun k hkm o ho=>?_,fun j hj=>?_⟩
 ·obtain⟨k1,k2⟩:=hk.ks k hkm o ho
  exact⟨k1,dN (fun b h=>hkeep b h.2) hN .refl _ _ k2⟩
 obtain⟨u0,hu0⟩:=hR'.fv hj
 by_cases e:j=d
 ·exact⟨u0,hu0.1,by simp[mW,e,bO,cD]⟩
 obtain⟨u,h3,h4⟩:=hk.fv j hj
 refine⟨u,(ht j e).trans h3,?_⟩
 unfold mW at h4⊢
 cases hq:(d::fr).any (Nat.beq j)with
 | true=>simp[bO,cD]
 | false=>
  rw[List.any_cons,Bool.or_eq_false_iff]at hq
  rw[hq.2]at h4
  rw[cond_false,hg j e]
  exact gI (fun b h=>hkeep b h.2) hN .refl _ _ (by simpa using h4)
theorem Vf {f:Bool}:∀{l l':List AV}{j:Nat}{a':AV},VwL f ob l l'→l'[j]? =some a'→∃a,l[j]? =some a∧Vw f ob a a'
 | _,_,j,a',.nil,h=>by simp at h
 | _,_,0,a',.cons h1 h2,h=>by
  simp at h
  subst h
  exact⟨_,rfl,h1⟩
 | _,_,j+1,a',.cons h1 h2,h=>by
  obtain⟨a,e,hv⟩:=Vf h2 (j:=j) (by simpa using h)
  exact⟨a,by simpa using e,hv⟩
theorem Vg:∀{l:List AV}{j:Nat}{a:AV},gU l=true→l[j]? =some a→rA a=true
 | [],_,_,_,h=>by simp at h
 | b::l,0,a,h0,h=>by
  simp at h
  subst h
  simp only[gU,Bool.and_eq_true]at h0
  exact h0.1
 | b::l,j+1,a,h0,h=>by
  simp only[gU,Bool.and_eq_true]at h0
  exact Vg h0.2 (j:=j) (by simpa using h)
theorem nE {o:Operand}{k n t z t':Nat}{l:List AV}{trs:List Tr}(h:lk x.n g o=.one (.sl k 0 n)) (hk:cT ob k=some ⟨t,z,l⟩) (hr:gU l=true) (hv:VwL true ob l (trs.map .t)) (hn:trs.length=n*z):A1 true x g ob o (.one (.t (.s false t' z n trs))):=fun cs ts W hR=>by
 have hu:=hR.lk o
 rw[h]at hu
 have hk:=dM hk
 simp only[bO,cD,AR]at hu⊢
 simp only[FR]
 cases hb:(co cs k).b with
 | none=>
  rw[hb]at hu
  obtain⟨_,e,_,h0⟩:=hu
  subst e
  exact⟨none,0,h0,bC _,by omega,hn,.inl rfl⟩
 | some b=>
  rw[hb]at hu
  obtain⟨_,o',c,e,h1,h2,h3,_⟩:=hu
  obtain⟨k1,k2,k3⟩:=hR.blk hk hb
  have hS:=hR.blkS hk
  refine⟨_,c,e,h1,h2,hn,?_⟩
  rcases Nat.eq_zero_or_pos n with h0 | h0
  ·exact .inl h0
  obtain rfl:=h3 (.inl h0)
  refine .inr ⟨_,rfl,.inl ⟨rfl,hS b (by simp[aR,hb])⟩,?_⟩
  refine zJ fun j y hj=>?_
  obtain⟨a,ha,hva⟩:=Vf (j:=j) hv (by rw[List.getElem?_map,hj];rfl)
  obtain⟨zz,hz,hcr⟩:=wF (hR.crl hk) ha
  have har:=Bo hcr (Vg hr ha)
  refine⟨zz.val,?_,?_⟩
  ·have h9:=sM k1 (j:=j) (u:=zz.val) (by simp[hz])
   rw[Nat.zero_add,jH,Nat.zero_add]
   rw[jH,Nat.zero_add]at h9
   exact h9
  have h9:=hva.ok hR har
  simpa only[AR]using h9
variable {d1 d2:Nat}{ty1 ty2:TypeId}{pos1 pos2:String}{af1 af2:Array Edge}
theorem KY {cs:List Co}(b:Nat) (h:NV true x ob cs W b):b<W.heap.size:=by
 rcases h with h | h
 ·exact h.2
 exact h.1.1
theorem dcc {late:Nat→Bool}{K fr:List Nat}{fuel:Nat}{listed:Array Bool}{s1 s2:Bool}{f1 f2:FuncId}{a y:FV}{tr:List Tr}{b:Bool}{cf o1 o2:Operand}{ats1 ats2:Array TypeId}(i j:Nat)
  (hi:ops[i]? =some ⟨some d1,.call ⟨.value cf, #[o1],ats1⟩,ty1,pos1,af1,none⟩) (hj:ops[j]? =some ⟨some d2,.call ⟨.value (.tmp d1), #[o2],ats2⟩,ty2,pos2,af2,none⟩) (hcf:lk x.n g cf=.one (.t (.f f1 [] [])))
  (hS1:aE s1 x.P f1 [] [a] (aT (.one (.t (.f f2 [.a tr] []))))) (h1:CallOk x.P f1) (hA:A1 true x g ob o1 a) (hS2:aE s2 x.P f2 [] [.agg (tr.map .t),y] (aT (.one (tv (.bool b))))) (h2:CallOk x.P f2) (hY:A1 true x (bH g d1 .any) ob o2 y)
  (k:WD x ops Q late K (d2::d1::fr) true fuel ((listed.setIfInBounds i true).setIfInBounds j true) (bH (bH g d1 .any) d2 (.one (tv (.bool b)))) ob)
  (hr1:Region.ready .any ops listed=[i]:=by kernel_rfl) (hr2:Region.ready .any ops (listed.setIfInBounds i true)=[j]:=by kernel_rfl) (hd:Nat.blt d1 x.n=true:=by rfl):WD x ops Q late K fr true (fuel+2) listed g ob:=by
 intro Kp W1 cs ts W hR hK1 hK2 hkk
 refine Wn hr1 (DU hi (mI (b:=true) rfl hR) ?_)
 obtain⟨us0,us,e0,hfst,hcap⟩:=Xy hcf ob cs ts W hR
 simp only[FRL]at hfst hcap
 subst hfst hcap
 unfold Oper.wp
 rw[kV h1 e0]
 refine(Qi (W:=W) hS1 (us:=[Act.eval ⟨ts,[]⟩ o1]) ?_).mono fun e Wa hE=>?_
 ·simp only[eG,and_true]
  exact yT (fun _ _=>rfl) (fun b hb=>KY b hb) .refl _ _ (hA cs ts W hR)
 obtain⟨v1,r1,ys1,rfl,⟨_,rfl⟩,hba,hok1,hfp1,hro1⟩:=hE
 have hRa:RelC x (bH g d1 .any) ob cs (ts.setIfInBounds d1 v1) Wa:=(hR.ext hba).put d1 (by simp only[bO,cD])
 have hka:Kept x K (d1::fr) Kp W1 (bH g d1 .any) ob cs (ts.setIfInBounds d1 v1) Wa:=Fw (hkk rfl) hK1 hK2 hba hRa (fun j hj=>rE j (fun e=>hj (Option.some.inj e).symm)) (fun j hj=>Array.getElem?_setIfInBounds_ne (fun e=>hj e.symm))
 refine⟨fun _=>hka.same,?_⟩
 show tQ x.P ops (Lf x Q) (Sw Kp W1) late (fuel+1) (listed.setIfInBounds i true) ⟨ts.setIfInBounds d1 v1,[]⟩ Wa
 have hsz1:W1.heap.size≤Wa.heap.size:=Nat.le_trans hK2 hba.size
 refine Wn hr2 (DU hj (mI (b:=true) rfl hRa) ?_)
 have hlt:d1<ts.size:=by
  rw[hR.1]
  simpa[Nat.blt,Nat.lt_iff_add_one_le]using hd
 have hv1:Act.eval ⟨ts.setIfInBounds d1 v1,[]⟩ (.tmp d1)=v1:=by simp[Act.eval,hlt]
 have hcl:cD Wa (fun b=>b<Wa.heap.size) [] (.one (.t (.f f2 [.a tr] []))) v1:=by
  have h9:=Is (cs:=[]) (fun b hb=>hb) hro1 hok1 (fun b hb=>(hfp1 b hb).2)
  exact h9
 simp only[cD,AR,FR]at hcl
 obtain⟨us0,us,e1,hf0,hf1⟩:=hcl
 simp only[FRL]at hf1
 subst hf1
 match us0,hf0 with
 | [],h=>simp only[FRL]at h
 | w0::w1::us0,h=>simp only[FRL]at h;exact absurd h.2 (by simp)
 | [w0],h=>
  simp only[FRL,FR,and_true]at h
  obtain⟨cl,rfl,hcl⟩:=h
  unfold Oper.wp
  rw[kV (us0:=[.agg cl.toArray]) (us:=[]) h2 (hv1.trans e1)]
  refine(Qi (W:=Wa) hS2 (us:=[.agg cl.toArray,Act.eval ⟨ts.setIfInBounds d1 v1,[]⟩ o2]) ?_).mono fun e Wb hE=>?_
  ·simp only[eG,and_true]
   exact⟨⟨cl,rfl,Jb hcl⟩,yT (fun _ _=>rfl) (fun b hb=>KY b hb) .refl _ _ (hY cs _ Wa hRa)⟩
  obtain⟨v2,r2,ys2,rfl,⟨_,rfl⟩,hbb,hok2,hfp2,hro2⟩:=hE
  have hb2:v2=.bool b:=by
   have h9:=Is (cs:=[]) (fun b hb=>hb) hro2 hok2 (fun b hb=>(hfp2 b hb).2)
   simpa[zS,Pw,tF,tv,bO,cD,AR,FR]using h9
  subst hb2
  have hRb:RelC x (bH (bH g d1 .any) d2 (.one (tv (.bool b)))) ob cs ((ts.setIfInBounds d1 v1).setIfInBounds d2 (.bool b)) Wb:=(hRa.ext hbb).put d2 (by simp[bO,cD,AR,FR,tv])
  have hkb:=Fw (d:=d2) hka hK1 hsz1 hbb hRb (fun j hj=>rE j (fun e=>hj (Option.some.inj e).symm)) (fun j hj=>Array.getElem?_setIfInBounds_ne (fun e=>hj e.symm))
  exact⟨fun _=>hkb.same,k Kp W1 cs _ Wb hRb hK1 (Nat.le_trans hsz1 hbb.size) fun _=>hkb⟩
end
def Qj (x y c:Int):Int:=if x<y+c then 1 else 0
theorem BS (a b d:Nat):
  (((4294967295^^^a)&&& b)||| ((4294967295^^^(a^^^b))&&& d))/2147483648=
   (((1^^^(a/2147483648))&&&(b/2147483648))||| ((1^^^((a/2147483648)^^^(b/2147483648)))&&&(d/2147483648))):=by
 have e:∀v:Nat,v/2147483648=v>>>31:=fun v=>by rw[Nat.shiftRight_eq_div_pow]
 simp only[e,Nat.shiftRight_or_distrib,Nat.shiftRight_and_distrib,Nat.shiftRight_xor_distrib]
 rfl
theorem Qk (v:Nat) (h:v<4294967296):v/2147483648=0∨v/2147483648=1:=by omega
theorem UJ (x y c:Int) (x0:0≤x) (x1:x<4294967296) (y0:0≤y) (y1:y<4294967296) (c0:0≤c) (c1:c≤1):
  bits BinOp.or IntKind.u32 (bits BinOp.and IntKind.u32 (bits BinOp.xor IntKind.u32 IntKind.u32.max x) y)
   (bits BinOp.and IntKind.u32 (bits BinOp.xor IntKind.u32 IntKind.u32.max (bits BinOp.xor IntKind.u32 x y)) ((x-y-c)%4294967296))/2147483648=Qj x y c:=by
 obtain⟨a,rfl⟩:=Int.eq_ofNat_of_zero_le x0
 obtain⟨b,rfl⟩:=Int.eq_ofNat_of_zero_le y0
 have hdn:0≤((a:Int)-b-c)%4294967296:=by omega
 obtain⟨d,hd⟩:=Int.eq_ofNat_of_zero_le hdn
 rw[hd]
 have em:IntKind.u32.max=((4294967295:Nat):Int):=rfl
 have ha:a<4294967296:=by omega
 have hb:b<4294967296:=by omega
 have hd':d<4294967296:=by omega
 have x1:a^^^b<4294967296:=Nat.xor_lt_two_pow (n:=32) ha hb
 have x2:4294967295^^^a<4294967296:=Nat.xor_lt_two_pow (n:=32) (by omega) ha
 have x3:4294967295^^^(a^^^b)<4294967296:=Nat.xor_lt_two_pow (n:=32) (by omega) x1
 have x4:(4294967295^^^a)&&& b<4294967296:=Nat.and_lt_two_pow (n:=32) _ hb
 have x5:(4294967295^^^(a^^^b))&&& d<4294967296:=Nat.and_lt_two_pow (n:=32) _ hd'
 rw[em,u32_xor_nat _ _ (by omega) ha,u32_xor_nat _ _ ha hb,u32_xor_nat _ _ (by omega) x1,u32_and_nat _ _ x2 hb,u32_and_nat _ _ x3 hd',u32_or_nat _ _ x4 x5]
 have hs:=BS a b d
 have hh:((((4294967295^^^a)&&& b)||| ((4294967295^^^(a^^^b))&&& d):Nat):Int)/2147483648=(((((4294967295^^^a)&&& b)||| ((4294967295^^^(a^^^b))&&& d))/2147483648:Nat):Int):=rfl
 rw[hh,hs]
 unfold Qj
 rcases Qk a ha with ta | ta <;> rcases Qk b hb with tb | tb <;> rcases Qk d hd' with td | td <;> rw[ta,tb,td] <;> split <;> first | rfl | (exfalso;omega)
theorem BT (x:Int) (w:World):Calls Tryz.prog 146 #[.int .i64 x] w fun e w'=>e=.returned (.bool false)∧w=w':=by
 go_enter Tryz.func146,Tryz.ntmps146
 go_wp2
 go_ret
 simp
theorem BU (x:Int) (w:World):Calls Tryz.prog 162 #[.int .u32 x] w fun e w'=>e=.returned (.bool false)∧w=w':=by
 go_enter Tryz.func162,Tryz.ntmps162
 go_wp2
 go_ret
 simp
def rK (x y:Int):Int:=if x<y then-1 else if y<x then 1 else 0
theorem Sj (x y:Int) (w:World):Calls Tryz.prog 128 #[.int .i64 x,.int .i64 y] w fun e w'=>e=.returned (.int .i64 (rK x y))∧w=w':=by
 go_enter Tryz.func128,Tryz.ntmps128
 go_wp2_with (first
  | (go_at_call 146;refine(BT _ _).mono ?_;rintro e w' ⟨rfl,rfl⟩))
 all_goals (go_ret;refine⟨uY ?_,rfl⟩;show _=rK x y;unfold rK;(repeat' split) <;> first | rfl | omega)
theorem Sk (x y:Int) (w:World):Calls Tryz.prog 152 #[.int .u32 x,.int .u32 y] w fun e w'=>e=.returned (.int .i64 (rK x y))∧w=w':=by
 go_enter Tryz.func152,Tryz.ntmps152
 go_wp2_with (first
  | (go_at_call 162;refine(BU _ _).mono ?_;rintro e w' ⟨rfl,rfl⟩))
 all_goals (go_ret;refine⟨uY ?_,rfl⟩;show _=rK x y;unfold rK;(repeat' split) <;> first | rfl | omega)
theorem pD (x y c:Int) (w:World) (x0:0≤x) (x1:x<4294967296) (y0:0≤y) (y1:y<4294967296) (c0:0≤c) (c1:c<4294967296):
  Calls Tryz.prog 151 #[.int .u32 x,.int .u32 y,.int .u32 c] w fun e w'=>e=.returned (.tuple #[.int .u32 ((x+y+c)%4294967296),.int .u32 ((x+y+c)/4294967296)])∧w=w':=by
 go_enter Tryz.func151,Tryz.ntmps151
 go_wp2
 go_ret2
 exact⟨rfl,rfl⟩
theorem Ql (x y:Int) (x0:0≤x) (x1:x<4294967296) (y0:0≤y) (y1:y<4294967296):0≤x*y∧x*y≤18446744065119617025:=by
 refine⟨Int.mul_nonneg x0 y0,?_⟩
 have:=Int.mul_le_mul (show x≤4294967295 by omega) (show y≤4294967295 by omega) y0 (by omega)
 omega
theorem Xz (x y:Int) (w:World) (x0:0≤x) (x1:x<4294967296) (y0:0≤y) (y1:y<4294967296):
  Calls Tryz.prog 172 #[.int .u32 x,.int .u32 y] w fun e w'=>e=.returned (.tuple #[.int .u32 (x*y/4294967296),.int .u32 (x*y%4294967296)])∧w=w':=by
 obtain⟨p0,p1⟩:=Ql x y x0 x1 y0 y1
 go_enter Tryz.func172,Tryz.ntmps172
 go_wp2
 go_ret2
 exact⟨rfl,rfl⟩
theorem Ya (x y c:Int) (w:World) (x0:0≤x) (x1:x<4294967296) (y0:0≤y) (y1:y<4294967296) (c0:0≤c) (c1:c≤1):
  Calls Tryz.prog 153 #[.int .u32 x,.int .u32 y,.int .u32 c] w fun e w'=>e=.returned (.tuple #[.int .u32 ((x-y-c)%4294967296),.int .u32 (Qj x y c)])∧w=w':=by
 have hb:=Lib.hid (UJ x y c x0 x1 y0 y1 c0 c1)
 go_enter Tryz.func153,Tryz.ntmps153
 go_wp2
 go_ret2
 rw[←hb.out]
 exact⟨rfl,rfl⟩
theorem BV (h l:Int) (h0:0≤h) (h1:h<4294967296) (l0:0≤l) (l1:l<4294967296):
  bits BinOp.or IntKind.u64 (h*4294967296) l=h*4294967296+l:=by
 obtain⟨a,rfl⟩:=Int.eq_ofNat_of_zero_le h0
 obtain⟨b,rfl⟩:=Int.eq_ofNat_of_zero_le l0
 have e:((a:Int)*4294967296)=((a*4294967296:Nat):Int):=by omega
 have e2:a*4294967296 ||| b=a*4294967296+b:=by
  have:=Nat.two_pow_add_eq_or_of_lt (i:=32) (b:=b) (by omega) a
  rw[Nat.mul_comm]at this
  simpa using this.symm
 rw[e,bits_or_u64_nat _ _ (by omega) (by omega),e2]
 omega
theorem UK (h l d:Int) (h0:0≤h) (hd:h<d) (l0:0≤l) (l1:l<4294967296):
  0≤(h*4294967296+l)/d∧(h*4294967296+l)/d<4294967296∧0≤(h*4294967296+l)%d∧(h*4294967296+l)%d<d:=by
 have hp:0<d:=by omega
 refine⟨Int.ediv_nonneg (by omega) (by omega),Int.ediv_lt_of_lt_mul hp ?_,Int.emod_nonneg _ (by omega),Int.emod_lt_of_pos _ hp⟩
 have:(h+1)*4294967296≤d*4294967296:=Int.mul_le_mul_of_nonneg_right (by omega) (by omega)
 rw[Int.mul_comm 4294967296 d]
 omega
theorem Yb (h l d:Int) (w:World) (h0:0≤h) (hd:h<d) (l0:0≤l) (l1:l<4294967296) (d1:d<4294967296):
  Calls Tryz.prog 163 #[.int .u32 h,.int .u32 l,.int .u32 d] w fun e w'=>
   e=.returned (.tuple #[.int .u32 ((h*4294967296+l)/d),.int .u32 ((h*4294967296+l)%d)])∧∃n,w'=w.drewN n:=by
 have hne:(d != 0)=true:=by rw[bne_iff_ne];omega
 have hne2:¬d=0:=by omega
 have hle:decide (d≤h)=false:=by simp;omega
 have hor:=BV h l h0 (by omega) l0 l1
 obtain⟨q0,q1,r0,r1⟩:=UK h l d h0 hd l0 l1
 go_enter Tryz.func163,Tryz.ntmps163
 go_wp2
 go_quiet (fail)
 go_wp2
 go_ret2
 exact⟨rfl,_,rfl⟩
def lenOf:Value→Nat | .slice _ n _=>n | _=>0
set_option maxHeartbeats 400000 in
theorem jM (A:Option Addr) (n c:Nat) (xs:List Nat) (B:Nat) (w:World) (h:U32 w B A n c xs):
  Calls Tryz.prog 119 #[.slice A n c] w fun e w'=>e=.returned (.slice A (trim xs).length c)∧w=w':=by
 have hbig:=h.big
 have hcap:=h.cap
 go_enter Tryz.func119,Tryz.ntmps119
 go_wp2
 go_loop [0] (fun a=>∃k:Nat,k≤n∧a=.slice A k c∧Hid (trim (xs.take k)=trim xs)) (fun a=>lenOf a)
 case atStart=>exact⟨n,bC _,rfl,by have:=h.len;rw[fF (by omega)];exact rfl⟩
 case round=>
  obtain⟨k,hk,rfl,ht⟩:=hrel
  by_cases h0:0<k
  ·obtain⟨b,o,sp,rfl,hb,hc⟩:=h.at_ (show k-1<n by omega)
   go_wp2
   ·have h1:((nth xs (k-1):Nat):Int)==0:=by assumption
    have hx:nth xs (k-1)=0:=by simpa using h1
    exact⟨⟨k-1,by omega,rfl,by rw[yQ (by omega) (by rw[h.len];omega) hx];exact ht.out⟩,by simp only[lenOf];omega⟩
   have h1:(((nth xs (k-1):Nat):Int)==0)=false:=by assumption
   have hx:nth xs (k-1)≠0:=by simpa using h1
   go_ret
   exact⟨Jt (by rw[←ht.out,tN (by omega) (by rw[h.len];omega) hx,eJ,h.len,Nat.min_eq_left hk]),rfl⟩
  go_wp2
  obtain rfl:k=0:=by omega
  go_ret
  exact⟨Jt (by rw[←ht.out];rfl),rfl⟩
theorem Kz (w:World) (e:TypeId):(w.alloc (.cells #[] e)).ownsRow w.heap.size e 1 (.slice (some ⟨w.heap.size,0,none⟩) 0 0) 0 []:=
 ⟨rfl,.inr ⟨w.heap.size,0, #[],rfl,bC _,heap_alloc_new w _,bC _,by unfold maxLen;omega,rfl,rfl⟩⟩
theorem rF (w:World) (o:Obj):Below w.heap.size w (w.alloc o):=(Below.refl _ _).alloc (bC _) _
theorem tI:IsEl Tryz.prog 44 113 (.int .u32 0) 1 4:=IsEl.mk Tryz.underlying44 (z:=.int .u32 0) (by kernel_rfl) rfl (by omega)
def pE (xs:List Nat) (w:World) (e:Ending) (w':World):Prop:=
 ∃A n c,e=.returned (.slice A n c)∧Own 113 w' w.heap.size A n c xs∧Below w.heap.size w w'
set_option maxHeartbeats 400000 in
theorem sG (A:Option Addr) (n c:Nat) (xs:List Nat) (w:World) (h:U32 w w.heap.size A n c xs) (hn:n≤1099511627776):
    Calls Tryz.prog 118 #[.slice A n c] w (pE xs w):=by
  have q:∀(w:World) (a:Option Addr) (n c n' c':Nat),(binOp .eql 44 (.slice a n c) (.slice none n' c')).run Tryz.prog w=.ok (.bool a.isNone) w:=
    fun w a n c n' c'=>Lib.run_eql_slice_nil w _ _ a n c n' c' Tryz.underlying44
  rcases A with _ | ad
  · have h0:n=0:=by
      rcases Nat.eq_zero_or_pos n with h0 | h0
      · exact h0
      obtain⟨ad,e,_⟩:=h.rd.cell h0
      cases e
    subst h0
    have hx:xs=[]:=List.eq_nil_of_length_eq_zero h.len
    subst hx
    go_enter Tryz.func118,Tryz.ntmps118
    go_wp2
    go_ret
    exact⟨none,0,0,rfl,Own.nil,Below.refl _ _⟩
  go_enter Tryz.func118,Tryz.ntmps118
  go_wp2_with (first
    | (at_builtin
       refine rQ _ tI rfl (.tmp 5) (.tmp 6) rfl w.heap.size (.slice (some ⟨w.heap.size,0,none⟩) 0 0) 0 [] rfl (Kz _ _) w.heap.size (some ad) n c (iI xs) rfl (h.rd.below (rF w _)) (Ah xs) (by omega) (by omega) (by simp) ?_
       intro A' c' w1 hown hg _))
  go_ret
  refine⟨A',n,c',rfl,⟨by simpa using hown,h.lim⟩,tO (rF w _) (Kz _ _) hg (by simp) (bC _)⟩
set_option maxHeartbeats 400000 in
theorem hJ (A:Option Addr) (n c:Nat) (xs:List Nat) (w:World) (h:U32 w w.heap.size A n c xs) (hn:n≤1099511627776):
  Calls Tryz.prog 85 #[.slice A n c] w (pE (trim xs) w):=by
 have hl:=dP xs
 have hlen:=Lib.hid h.len
 go_enter Tryz.func85,Tryz.ntmps85
 go_wp2_with (first
  | (go_at_call 119;refine(jM _ _ _ xs _ _ h).mono ?_;rintro e w' ⟨rfl,rfl⟩)
  | (go_at_call 118;refine(sG _ _ _ (trim xs) _ h.trim ?_).mono ?_;(rw[hlen.out]at hl;omega);rintro e w1 ⟨A1,n1,c1,rfl,h1,hb1⟩))
 go_ret
 exact⟨A1,n1,c1,rfl,h1,hb1⟩
theorem BW {P:Program}{f:FuncId}{args:Array Value}{w:World}{a n:Nat}{v:Value}
  (h:Calls P f args (w.drewN (a+n)) fun e w'=>e=.returned v∧w.drewN (a+n)=w'):
  Calls P f args (w.drewN (a+n)) fun e w''=>e=.returned v∧∃m,w''=w.drewN (a+m):=
 h.mono fun _ _ ⟨he,hm⟩=>⟨he,n,hm.symm⟩
theorem UL (w:World) (a b c:Nat):∃k,((w.drewN a).drewN b).drewN c=w.drewN k:=⟨_,by rw[World.drewN_drewN,World.drewN_drewN]⟩
theorem fC (A:Option Addr) (n c n':Nat) (xs:List Nat) (B:Nat) (w:World) (h:U32 w B A n c xs) (hn:(trim xs).length=n'):
  Calls Tryz.prog 119 #[.slice A n c] w fun e w'=>e=.returned (.slice A n' c)∧w=w':=by
 subst hn;exact jM A n c xs B w h
def pF (x y:Nat):Int:=rK (x:Int) (y:Int)
theorem sH {x y:Nat}(h:x<y):pF x y=-1:=by unfold pF rK;rw[if_pos (by omega)]
theorem oK {x y:Nat}(h:y<x):pF x y=1:=by unfold pF rK;rw[if_neg (by omega),if_pos (by omega)]
theorem wG {x y:Nat}(h:x=y):pF x y=0:=by unfold pF rK;rw[if_neg (by omega),if_neg (by omega)]
theorem Sl {xs ys:List Nat}(hx:Lim 4294967296 xs) (hy:Lim 4294967296 ys) (h:(trim xs).length≠(trim ys).length):
  rK ((trim xs).length:Int) ((trim ys).length:Int)=pF (vl 4294967296 xs) (vl 4294967296 ys):=by
 rcases Nat.lt_or_gt_of_ne h with h | h
 ·have:=jZ (B:=4294967296) (by omega) hx.trim (qN ys) h
  rw[eI,eI]at this
  rw[sH this];exact sH h
 have:=jZ (B:=4294967296) (by omega) hy.trim (qN xs) h
 rw[eI,eI]at this
 rw[oK this];exact oK h
theorem OB {xs ys:List Nat}{k:Nat}(hx:Lim 4294967296 xs) (hy:Lim 4294967296 ys) (hl:xs.length=ys.length) (h0:0<k) (hk:k≤xs.length)
  (hd:xs.drop k=ys.drop k) (h:nth xs (k-1)≠nth ys (k-1)):rK (nth xs (k-1):Int) (nth ys (k-1):Int)=pF (vl 4294967296 xs) (vl 4294967296 ys):=by
 have e:k-1+1=k:=by omega
 rcases Nat.lt_or_gt_of_ne h with h | h
 ·have:=Mo (B:=4294967296) (k:=k-1) hx hl (by omega) (by rw[e];exact hd) (by rwa[eV (by omega),eV (by omega)]at h)
  rw[sH this];exact sH h
 have:=Mo (B:=4294967296) (k:=k-1) hy hl.symm (by omega) (by rw[e];exact hd.symm) (by rwa[eV (by omega),eV (by omega)]at h)
 rw[oK this];exact oK h
theorem BX {xs ys:List Nat}{k:Nat}(hl:xs.length=ys.length) (h0:0<k) (hk:k≤xs.length) (hd:xs.drop k=ys.drop k) (h:nth xs (k-1)=nth ys (k-1)):
  xs.drop (k-1)=ys.drop (k-1):=by
 have e:k-1+1=k:=by omega
 rw[List.drop_eq_getElem_cons (show k-1<xs.length by omega),List.drop_eq_getElem_cons (show k-1<ys.length by omega),e,hd,←eV,←eV,h]
set_option maxHeartbeats 800000 in
theorem tJ (A B:Option Addr) (n m c d:Nat) (xs ys:List Nat) (bd:Nat) (w:World) (ha:U32 w bd A n c xs) (hb:U32 w bd B m d ys):
  Calls Tryz.prog 140 #[.slice A n c,.slice B m d] w fun e w'=>e=.returned (.int .i64 (pF (vl 4294967296 xs) (vl 4294967296 ys)))∧∃k,w'=w.drewN k:=by
 have ha1:=ha.trim
 have hb1:=hb.trim
 have hab:=ha.big
 have hbb:=hb.big
 have hac:=ha1.cap
 have hbc:=hb1.cap
 obtain⟨n1,hn1⟩:∃n1,(trim xs).length=n1:=⟨_,rfl⟩
 obtain⟨m1,hm1⟩:∃m1,(trim ys).length=m1:=⟨_,rfl⟩
 rw[hn1]at ha1 hac
 rw[hm1]at hb1 hbc
 have Hn1:=Lib.hid hn1
 have Hm1:=Lib.hid hm1
 clear hn1 hm1
 by_cases hne:n1=m1
 ·subst hne
  have hq:((n1:Int)!=(n1:Int))=false:=by simp
  go_enter Tryz.func140,Tryz.ntmps140
  go_wp2_with fail
  refine(fC _ _ _ n1 xs _ _ ha Hn1.out).mono ?_
  rintro e w' ⟨rfl,rfl⟩
  go_wp2_with fail
  refine(fC _ _ _ n1 ys _ _ hb Hm1.out).mono ?_
  rintro e w' ⟨rfl,rfl⟩
  go_wp2_with fail
  go_loopw [5] (fun i wr=>∃k:Nat,k≤n1∧i=.int .i64 ((k:Int)-1)∧Hid ((trim xs).drop k=(trim ys).drop k)∧∃q,wr=w.drewN q) (fun i _=>(intOf i+1).toNat)
  case atStart=>exact⟨n1,bC _,rfl,by rw[List.drop_eq_nil_of_le (by rw[Hn1.out];exact bC _),List.drop_eq_nil_of_le (by rw[Hm1.out];exact bC _)];exact rfl,0,rfl⟩
  case round=>
   obtain⟨k,hk,rfl,ht,q,rfl⟩:=hrel
   by_cases h0:0<k
   ·obtain⟨b,o,sp,rfl,hb',hc'⟩:=ha1.at_ (show k-1<n1 by omega)
    obtain⟨b2,o2,sp2,rfl,hb2',hc2'⟩:=hb1.at_ (show k-1<n1 by omega)
    by_cases he:nth (trim xs) (k-1)=nth (trim ys) (k-1)
    ·have he1:(((nth (trim xs) (k-1):Nat):Int)!=((nth (trim ys) (k-1):Nat):Int))=false:=by rw[he];simp
     have He:=Lib.hid he
     clear he
     go_wp2_with fail
     go_quiet (fail)
     go_wp2_with fail
     exact⟨⟨k-1,by omega,by go_num,BX (by rw[Hn1.out,Hm1.out]) h0 (by rw[Hn1.out];exact hk) ht.out He.out,_,rfl⟩,by simp[intOf];omega⟩
    have he1:(((nth (trim xs) (k-1):Nat):Int)!=((nth (trim ys) (k-1):Nat):Int))=true:=by rw[bne_iff_ne];omega
    have He:=Lib.hid he
    clear he
    go_wp2_with fail
    go_quiet (fail)
    go_wp2_with fail
    go_quiet ((go_at_call 152;exact BW (Sk _ _ _)))
    go_wp2_with fail
    go_ret
    exact⟨uY (by rw[OB ha1.lim hb1.lim (by rw[Hn1.out,Hm1.out]) h0 (by rw[Hn1.out];exact hk) ht.out He.out,eI,eI]),UL _ _ _ _⟩
   obtain rfl:k=0:=by omega
   have he:trim xs=trim ys:=ht.out
   go_wp2_with fail
   go_ret
   exact⟨uY (by rw[←eI 4294967296 xs,he,eI];exact(wG rfl).symm),_,rfl⟩
 have hq:((n1:Int)!=(m1:Int))=true:=by rw[bne_iff_ne];omega
 go_enter Tryz.func140,Tryz.ntmps140
 go_wp2_with fail
 refine(fC _ _ _ n1 xs _ _ ha Hn1.out).mono ?_
 rintro e w' ⟨rfl,rfl⟩
 go_wp2_with fail
 refine(fC _ _ _ m1 ys _ _ hb Hm1.out).mono ?_
 rintro e w' ⟨rfl,rfl⟩
 go_wp2_with fail
 refine(Sj _ _ _).mono ?_
 rintro e w' ⟨rfl,rfl⟩
 go_wp2_with fail
 go_ret
 refine⟨uY ?_,0,rfl⟩
 have:=Sl ha.lim hb.lim (by rw[Hn1.out,Hm1.out];exact hne)
 rw[Hn1.out,Hm1.out]at this
 exact this
def AddInv (xs ys os:List Nat) (k C:Nat):Prop:=
 C≤1∧vl 4294967296 (os.take k)+4294967296^k*C=vl 4294967296 (xs.take k)+vl 4294967296 (ys.take k)
theorem AddInv.zero (xs ys os:List Nat):AddInv xs ys os 0 0:=⟨by omega,by simp[vl]⟩
theorem AddInv.le {xs ys os:List Nat}{k C:Nat}(h:AddInv xs ys os k C):C≤1:=h.1
theorem AddInv.step {xs ys os:List Nat}{k C:Nat}(h:AddInv xs ys os k C) (hk:k<os.length) (hx:Lim 4294967296 xs) (hy:Lim 4294967296 ys):
  AddInv xs ys (os.set k ((nth xs k+nth ys k+C)%4294967296)) (k+1) ((nth xs k+nth ys k+C)/4294967296):=by
 obtain⟨h1,h2⟩:=h
 have x1:=hx.nth (by omega) k
 have y1:=hy.nth (by omega) k
 refine⟨by omega,?_⟩
 rw[jC _ _ hk,bZ,bZ,Nat.pow_succ]
 have e:=Nat.mod_add_div (nth xs k+nth ys k+C) 4294967296
 generalize 4294967296^k=p at*
 generalize (nth xs k+nth ys k+C)/4294967296=q at*
 generalize (nth xs k+nth ys k+C)%4294967296=r at*
 have e2:p*(r+4294967296*q)=p*(nth xs k+nth ys k+C):=by rw[e]
 grind
theorem AddInv.end_ {xs ys os:List Nat}{n C:Nat}(h:AddInv xs ys os n C) (hos:os.length=n+1) (hx:xs.length≤n) (hy:ys.length≤n):
  vl 4294967296 (os.set n C)=vl 4294967296 xs+vl 4294967296 ys:=by
 have h2:=h.2
 rw[cH _ hx,cH _ hy]at h2
 rw[←h2,←jC _ C (by omega),cH]
 rw[List.length_set];omega
set_option maxHeartbeats 1000000 in
theorem Sm (A B:Option Addr) (n m c d:Nat) (xs ys:List Nat) (w:World) (ha:U32 w w.heap.size A n c xs) (hb:U32 w w.heap.size B m d ys) (hn:n≤1099511627776) (hmn:m≤n):
  Calls Tryz.prog 139 #[.slice A n c,.slice B m d] w (pE (dg 4294967296 (vl 4294967296 xs+vl 4294967296 ys)) w):=by
 have hlt':¬n<m:=by omega
 have Hx:=Lib.hid ha.len
 have Hy:=Lib.hid hb.len
 go_enter Tryz.func139,Tryz.ntmps139
 go_wp2_with (refine qP _ tI rfl (.tmp 18) (.tmp 18) rfl .i64 .i64 _ _ (n+1) rfl rfl (by omega) (by omega) (by omega) (by omega) ?_;intro w1 hown hb1 hz1)
 have hO:=Own.made hown
 clear hown
 go_wp2_with fail
 go_loopw [6,22] (fun cy i wr=>∃(k C:Nat) (os:List Nat),k≤n∧i=.int .i64 (k:Int)∧cy=.int .u32 (C:Int)∧Own 113 wr w.heap.size (some ⟨w.heap.size,0,none⟩) (n+1) (n+1) os∧AddInv xs ys os k C∧Below w.heap.size w wr∧w.heap.size<wr.heap.size) (fun _ i _=>n-(intOf i).toNat)
 case atStart=>exact⟨0,0,_,Nat.zero_le _,rfl,rfl,hO,AddInv.zero _ _ _,hb1,hz1⟩
 case round=>
  obtain⟨k,C,os,hk,rfl,rfl,hown,hI,hbw,hz⟩:=hrel
  have hC:=hI.le
  by_cases hlt:k<n
  ·obtain⟨b,o,sp,rfl,hbb,hcc⟩:=(ha.below hbw).at_ hlt
   have ho1:=hown.cell (show k<n+1 by omega)
   have ho2:=hown.frozen k
   have hx1:=ha.lim.nth (by omega) k
   have hy1:=hb.lim.nth (by omega) k
   have hset:=hown.set k (v:=(nth xs k+nth ys k+C)%4294967296) (Nat.mod_lt _ (by omega))
   have hstep:=hI.step (by rw[hown.len];omega) ha.lim hb.lim
   by_cases hm:k<m
   ·obtain⟨b2,o2,sp2,rfl,hbb2,hcc2⟩:=(hb.below hbw).at_ hm
    go_wp2_with fail
    refine(pD _ _ _ _ ?_ ?_ ?_ ?_ ?_ ?_).mono ?_ <;> try omega
    rintro e w' ⟨rfl,rfl⟩
    go_wp2_with fail
    go_roundw
    case rel=>exact⟨k+1,_,_,by omega,by go_num,rfl,hset,hstep,hbw.setCell (bC _) _,by simpa using hz⟩
    case measure=>simp[intOf];omega
   have hy0:nth ys k=0:=fR (by rw[Hy.out];omega)
   rw[hy0]at hset hstep
   clear hy0
   go_wp2_with fail
   refine(pD _ _ _ _ ?_ ?_ ?_ ?_ ?_ ?_).mono ?_ <;> try omega
   rintro e w' ⟨rfl,rfl⟩
   go_wp2_with fail
   go_roundw
   case rel=>exact⟨k+1,_,_,by omega,by go_num,rfl,hset,hstep,hbw.setCell (bC _) _,by simpa using hz⟩
   case measure=>simp[intOf];omega
  obtain rfl:k=n:=by omega
  have ho1:=hown.cell (show k<k+1 by omega)
  have ho2:=hown.frozen k
  have hset:=hown.set k (v:=C) (by omega)
  have hend:=Lib.hid (hI.end_ hown.len (by rw[Hx.out];exact bC _) (by rw[Hy.out];omega))
  have hbe:=hbw.setCell (p:=⟨w.heap.size,k,none⟩) (bC _) (.int .u32 (C:Int))
  clear hb1 hbw hI hown hz1
  go_wp2_with fail
  refine(jM _ _ _ _ _ _ hset.u32).mono ?_
  rintro e w' ⟨rfl,rfl⟩
  go_wp2_with fail
  go_ret
  exact⟨_,_,_,rfl,by rw[←hend.out,gC (by omega) hset.lim];exact hset.trim,hbe⟩
set_option maxHeartbeats 1000000 in
theorem Sn (A B:Option Addr) (n m c d:Nat) (xs ys:List Nat) (w:World) (ha:U32 w w.heap.size A n c xs) (hb:U32 w w.heap.size B m d ys) (hm:m≤1099511627776) (hmn:n<m):
  Calls Tryz.prog 139 #[.slice A n c,.slice B m d] w (pE (dg 4294967296 (vl 4294967296 xs+vl 4294967296 ys)) w):=by
 have hlt':n<m:=by omega
 have Hx:=Lib.hid hb.len
 have Hy:=Lib.hid ha.len
 go_enter Tryz.func139,Tryz.ntmps139
 go_wp2_with (refine qP _ tI rfl (.tmp 18) (.tmp 18) rfl .i64 .i64 _ _ (m+1) rfl rfl (by omega) (by omega) (by omega) (by omega) ?_;intro w1 hown hb1 hz1)
 have hO:=Own.made hown
 clear hown
 go_wp2_with fail
 go_loopw [6,22] (fun cy i wr=>∃(k C:Nat) (os:List Nat),k≤m∧i=.int .i64 (k:Int)∧cy=.int .u32 (C:Int)∧Own 113 wr w.heap.size (some ⟨w.heap.size,0,none⟩) (m+1) (m+1) os∧AddInv ys xs os k C∧Below w.heap.size w wr∧w.heap.size<wr.heap.size) (fun _ i _=>m-(intOf i).toNat)
 case atStart=>exact⟨0,0,_,Nat.zero_le _,rfl,rfl,hO,AddInv.zero _ _ _,hb1,hz1⟩
 case round=>
  obtain⟨k,C,os,hk,rfl,rfl,hown,hI,hbw,hz⟩:=hrel
  have hC:=hI.le
  by_cases hlt:k<m
  ·obtain⟨b,o,sp,rfl,hbb,hcc⟩:=(hb.below hbw).at_ hlt
   have ho1:=hown.cell (show k<m+1 by omega)
   have ho2:=hown.frozen k
   have hx1:=hb.lim.nth (by omega) k
   have hy1:=ha.lim.nth (by omega) k
   have hset:=hown.set k (v:=(nth ys k+nth xs k+C)%4294967296) (Nat.mod_lt _ (by omega))
   have hstep:=hI.step (by rw[hown.len];omega) hb.lim ha.lim
   by_cases hm:k<n
   ·obtain⟨b2,o2,sp2,rfl,hbb2,hcc2⟩:=(ha.below hbw).at_ hm
    go_wp2_with fail
    refine(pD _ _ _ _ ?_ ?_ ?_ ?_ ?_ ?_).mono ?_ <;> try omega
    rintro e w' ⟨rfl,rfl⟩
    go_wp2_with fail
    go_roundw
    case rel=>exact⟨k+1,_,_,by omega,by go_num,rfl,hset,hstep,hbw.setCell (bC _) _,by simpa using hz⟩
    case measure=>simp[intOf];omega
   have hy0:nth xs k=0:=fR (by rw[Hy.out];omega)
   rw[hy0]at hset hstep
   clear hy0
   go_wp2_with fail
   refine(pD _ _ _ _ ?_ ?_ ?_ ?_ ?_ ?_).mono ?_ <;> try omega
   rintro e w' ⟨rfl,rfl⟩
   go_wp2_with fail
   go_roundw
   case rel=>exact⟨k+1,_,_,by omega,by go_num,rfl,hset,hstep,hbw.setCell (bC _) _,by simpa using hz⟩
   case measure=>simp[intOf];omega
  obtain rfl:k=m:=by omega
  have ho1:=hown.cell (show k<k+1 by omega)
  have ho2:=hown.frozen k
  have hset:=hown.set k (v:=C) (by omega)
  have hend:=Lib.hid (hI.end_ hown.len (by rw[Hx.out];exact bC _) (by rw[Hy.out];omega))
  have hbe:=hbw.setCell (p:=⟨w.heap.size,k,none⟩) (bC _) (.int .u32 (C:Int))
  clear hb1 hbw hI hown hz1
  go_wp2_with fail
  refine(jM _ _ _ _ _ _ hset.u32).mono ?_
  rintro e w' ⟨rfl,rfl⟩
  go_wp2_with fail
  go_ret
  exact⟨_,_,_,rfl,by rw[Nat.add_comm (vl 4294967296 xs) (vl 4294967296 ys),←hend.out,gC (by omega) hset.lim];exact hset.trim,hbe⟩
theorem IC (A B:Option Addr) (n m c d:Nat) (xs ys:List Nat) (w:World) (ha:U32 w w.heap.size A n c xs) (hb:U32 w w.heap.size B m d ys) (hn:n≤1099511627776) (hm:m≤1099511627776):
  Calls Tryz.prog 139 #[.slice A n c,.slice B m d] w (pE (dg 4294967296 (vl 4294967296 xs+vl 4294967296 ys)) w):=by
 by_cases h:m≤n
 ·exact Sm A B n m c d xs ys w ha hb hn h
 exact Sn A B n m c d xs ys w ha hb hm (by omega)
def gM (n:Nat):Nat:=n%4294967296
def lU (n:Nat):Nat:=n/4294967296
theorem Bw (n:Nat):gM n<4294967296:=Nat.mod_lt _ (by omega)
theorem Yc (n:Nat):gM n+4294967296*lU n=n:=Nat.mod_add_div n 4294967296
theorem KZ {n:Nat}(h:n<18446744073709551616):lU n<4294967296:=by unfold lU;omega
def mY (x y c:Nat):Nat:=(x+8589934592-y-c)%4294967296
def pG (x y c:Nat):Nat:=if x<y+c then 1 else 0
theorem Vh (x y c:Nat):mY x y c<4294967296:=Nat.mod_lt _ (by omega)
theorem Vi (x y c:Nat):pG x y c≤1:=by unfold pG;split <;> omega
theorem BY {x y c:Nat}(hx:x<4294967296) (hy:y<4294967296) (hc:c≤1):mY x y c+y+c=x+4294967296*pG x y c:=by
 unfold mY pG;split <;> omega
theorem uU (x y c:Nat) (w:World) (x1:x<4294967296) (y1:y<4294967296) (c1:c<4294967296):
  Calls Tryz.prog 151 #[.int .u32 (x:Int),.int .u32 (y:Int),.int .u32 (c:Int)] w fun e w'=>
   e=.returned (.tuple #[.int .u32 (gM (x+y+c):Nat),.int .u32 (lU (x+y+c):Nat)])∧w=w':=
 (pD _ _ _ w (by omega) (by omega) (by omega) (by omega) (by omega) (by omega)).mono fun _ _ ⟨h1,h2⟩=>⟨h1,h2⟩
theorem So (x y:Nat) (w:World) (x1:x<4294967296) (y1:y<4294967296):
  Calls Tryz.prog 172 #[.int .u32 (x:Int),.int .u32 (y:Int)] w fun e w'=>
   e=.returned (.tuple #[.int .u32 (lU (x*y):Nat),.int .u32 (gM (x*y):Nat)])∧w=w':=
 (Xz _ _ w (by omega) (by omega) (by omega) (by omega)).mono fun _ _ ⟨h1,h2⟩=>⟨h1,h2⟩
theorem Cl (x y c:Nat) (w:World) (x1:x<4294967296) (y1:y<4294967296) (c1:c≤1):
  Calls Tryz.prog 153 #[.int .u32 (x:Int),.int .u32 (y:Int),.int .u32 (c:Int)] w fun e w'=>
   e=.returned (.tuple #[.int .u32 (mY x y c:Nat),.int .u32 (pG x y c:Nat)])∧w=w':=by
 have e1:((mY x y c:Nat):Int)=((x:Int)-y-c)%4294967296:=by unfold mY;omega
 have e2:((pG x y c:Nat):Int)=Qj x y c:=by unfold pG Qj;split <;> split <;> omega
 rw[e1,e2]
 exact Ya _ _ _ w (by omega) (by omega) (by omega) (by omega) (by omega) (by omega)
theorem Sp (h l d:Nat) (w:World) (hd:h<d) (l1:l<4294967296) (d1:d<4294967296):
  Calls Tryz.prog 163 #[.int .u32 (h:Int),.int .u32 (l:Int),.int .u32 (d:Int)] w fun e w'=>
   e=.returned (.tuple #[.int .u32 ((h*4294967296+l)/d:Nat),.int .u32 ((h*4294967296+l)%d:Nat)])∧∃n,w'=w.drewN n:=
 (Yb _ _ _ w (by omega) (by omega) (by omega) (by omega) (by omega)).mono fun _ _ ⟨h1,h2⟩=>⟨h1,h2⟩
def SubInv (xs ys os:List Nat) (k C:Nat):Prop:=
 C≤1∧os.length=xs.length∧vl 4294967296 (os.take k)+vl 4294967296 (ys.take k)=vl 4294967296 (xs.take k)+4294967296^k*C∧∀j,k≤j→nth os j=nth xs j
theorem SubInv.zero (xs ys:List Nat):SubInv xs ys xs 0 0:=⟨by omega,rfl,by simp[vl],fun _ _=>rfl⟩
theorem SubInv.le {xs ys os:List Nat}{k C:Nat}(h:SubInv xs ys os k C):C≤1:=h.1
theorem SubInv.at_ {xs ys os:List Nat}{k C:Nat}(h:SubInv xs ys os k C):nth os k=nth xs k:=h.2.2.2 k (bC _)
theorem mR {l:List Nat}{i j v:Nat}(h:i≠j):nth (l.set i v) j=nth l j:=by
 unfold nth;rw[List.getD_eq_getElem?_getD,List.getD_eq_getElem?_getD,List.getElem?_set_ne h]
theorem Fx {l:List Nat}{i v:Nat}(h:i<l.length):nth (l.set i v) i=v:=by
 rw[eV (by rw[List.length_set];exact h),List.getElem_set_self]
theorem SubInv.step {xs ys os:List Nat}{k C:Nat}(h:SubInv xs ys os k C) (hk:k<xs.length) (hx:Lim 4294967296 xs) (hy:Lim 4294967296 ys):
  SubInv xs ys (os.set k (mY (nth xs k) (nth ys k) C)) (k+1) (pG (nth xs k) (nth ys k) C):=by
 obtain⟨h1,hl,h2,h3⟩:=h
 have x1:=hx.nth (by omega) k
 have y1:=hy.nth (by omega) k
 have e:=BY x1 y1 h1
 refine⟨Vi _ _ _,by rw[List.length_set,hl],?_,fun j hj=>by rw[mR (by omega)];exact h3 j (by omega)⟩
 rw[jC _ _ (by omega),bZ,bZ,Nat.pow_succ]
 generalize 4294967296^k=p at*
 generalize mY (nth xs k) (nth ys k) C=s at*
 generalize pG (nth xs k) (nth ys k) C=q at*
 have e2:p*(s+nth ys k+C)=p*(nth xs k+4294967296*q):=by rw[e]
 grind
theorem SubInv.end_ {xs ys os:List Nat}{C:Nat}(h:SubInv xs ys os xs.length C) (ho:Lim 4294967296 os) (hy:ys.length≤xs.length) (hle:vl 4294967296 ys≤vl 4294967296 xs):
  vl 4294967296 os=vl 4294967296 xs-vl 4294967296 ys:=by
 obtain⟨h1,hl,h2,_⟩:=h
 rw[cH _ hy,cH _ (bC _),cH _ (by omega)]at h2
 have:=gB ho
 rw[hl]at this
 have hC:C=0∨C=1:=by omega
 rcases hC with rfl | rfl
 ·omega
 omega
def MulInv (xs os:List Nat) (m k C:Nat):Prop:=C<4294967296∧vl 4294967296 (os.take k)+4294967296^k*C=vl 4294967296 (xs.take k)*m
theorem MulInv.zero (xs os:List Nat) (m:Nat):MulInv xs os m 0 0:=⟨by omega,by simp[vl]⟩
theorem MulInv.lt {xs os:List Nat}{m k C:Nat}(h:MulInv xs os m k C):C<4294967296:=h.1
theorem UM {x m C:Nat}(hx:x<4294967296) (hm:m<4294967296) (hC:C<4294967296):x*m+C≤18446744069414584320:=by
 have:x*m≤4294967295*4294967295:=Nat.mul_le_mul (by omega) (by omega)
 omega
theorem Qm {x m C:Nat}(hx:x<4294967296) (hm:m<4294967296) (hC:C<4294967296):
  lU (x*m)+lU (gM (x*m)+C)=lU (x*m+C)∧gM (gM (x*m)+C)=gM (x*m+C)∧lU (x*m+C)<4294967296:=by
 have:=UM hx hm hC
 unfold lU gM
 omega
theorem MulInv.step {xs os:List Nat}{m k C:Nat}(h:MulInv xs os m k C) (hk:k<os.length) (hx:Lim 4294967296 xs) (hm:m<4294967296):
  MulInv xs (os.set k (gM (nth xs k*m+C))) m (k+1) (lU (nth xs k*m+C)):=by
 obtain⟨h1,h2⟩:=h
 have x1:=hx.nth (by omega) k
 refine⟨(Qm x1 hm h1).2.2,?_⟩
 rw[jC _ _ hk,bZ,Nat.pow_succ]
 have e:=Yc (nth xs k*m+C)
 generalize 4294967296^k=p at*
 generalize gM (nth xs k*m+C)=s at*
 generalize lU (nth xs k*m+C)=q at*
 have e2:p*(s+4294967296*q)=p*(nth xs k*m+C):=by rw[e]
 grind
theorem MulInv.end_ {xs os:List Nat}{m n C:Nat}(h:MulInv xs os m n C) (hos:os.length=n+1) (hx:xs.length≤n):
  vl 4294967296 (os.set n C)=vl 4294967296 xs*m:=by
 have h2:=h.2
 rw[cH _ hx]at h2
 rw[←h2,←jC _ C (by omega),cH]
 rw[List.length_set];omega
def DivInv (xs os:List Nat) (d k r:Nat):Prop:=
 r<d∧os.length=xs.length∧vl 4294967296 (os.drop k)*d+r=vl 4294967296 (xs.drop k)∧∀j,j<k→nth os j=nth xs j
theorem DivInv.top (xs:List Nat){d:Nat}(hd:0<d):DivInv xs xs d xs.length 0:=⟨hd,rfl,by simp[vl],fun _ _=>rfl⟩
theorem DivInv.lt {xs os:List Nat}{d k r:Nat}(h:DivInv xs os d k r):r<d:=h.1
theorem DivInv.at_ {xs os:List Nat}{d k r:Nat}(h:DivInv xs os d k r) (h0:0<k):nth os (k-1)=nth xs (k-1):=h.2.2.2 _ (by omega)
theorem mK (B:Nat){l:List Nat}{k:Nat}(h0:0<k) (h:k≤l.length):vl B (l.drop (k-1))=nth l (k-1)+B*vl B (l.drop k):=by
 have e:=List.drop_eq_getElem_cons (show k-1<l.length by omega)
 rw[show k-1+1=k from by omega]at e
 rw[e,iD,eV]
theorem DivInv.step {xs os:List Nat}{d k r:Nat}(h:DivInv xs os d k r) (h0:0<k) (hk:k≤xs.length) (hd:0<d):
  DivInv xs (os.set (k-1) ((r*4294967296+nth xs (k-1))/d)) d (k-1) ((r*4294967296+nth xs (k-1))%d):=by
 obtain⟨h1,hl,h2,h3⟩:=h
 refine⟨Nat.mod_lt _ hd,by rw[List.length_set,hl],?_,fun j hj=>by rw[mR (by omega)];exact h3 j (by omega)⟩
 rw[mK _ h0 (by rw[List.length_set];omega),mK _ h0 hk,Fx (by omega),List.drop_set_of_lt (by omega)]
 have e:=Nat.div_add_mod (r*4294967296+nth xs (k-1)) d
 generalize (r*4294967296+nth xs (k-1))/d=q at*
 generalize (r*4294967296+nth xs (k-1))%d=s at*
 grind
theorem DivInv.end_ {xs os:List Nat}{d r:Nat}(h:DivInv xs os d 0 r) (hd:0<d):vl 4294967296 os=vl 4294967296 xs/d∧r=vl 4294967296 xs%d:=by
 obtain⟨h1,_,h2,_⟩:=h
 simp only[List.drop_zero]at h2
 have e:vl 4294967296 xs=r+d*vl 4294967296 os:=by rw[←h2,Nat.mul_comm];omega
 rw[e,Nat.add_mul_div_left _ _ hd,Nat.add_mul_mod_self_left,Nat.div_eq_of_lt h1,Nat.mod_eq_of_lt h1]
 exact⟨by omega,rfl⟩
end Go.Proofs.YtbbabfkgdnkehaaGreat
