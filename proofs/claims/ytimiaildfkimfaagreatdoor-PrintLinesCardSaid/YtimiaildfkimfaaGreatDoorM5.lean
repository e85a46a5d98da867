/- Part 5 of a proof: Av22 to Limb7. -/
import Derived.Test.YtimiaildfkimfaaGreatDoorM4
import Derived.WalkKit
import Derived.ProofKit
import Derived.OpenShut
import Derived.ChangeOld
import Derived.Below
import Derived.Carry
import Derived.Shelf.Strings.OnBuilder
import Derived.Shelf.Strings.Runes
import Derived.Shelf.Small.Strs
import Derived.Shelf.GgClosure.StringsIndexFunc
import Derived.Test.YtimiaildfkimfaaGreatDoorProg
import Derived.WalkSpells
import Derived.WalkLawsBesides
import Derived.Deep.QuietTactic
import Derived.BigQuiet
import Derived.Test.YtimiaildfkimfaaGreatDoorM1
import Derived.Lib.SliceRun
import Derived.KernelRfl
import Derived.Deep.RegionWith
import Derived.Lib.AppendZeros
set_option maxRecDepth 100000
set_option linter.unusedVariables false
set_option linter.unusedSimpArgs false
namespace Go.Proofs.YtimiaildfkimfaaGreatDoor
open Go Go.RowKit
def gX (ob:List (Option Ob)) (K0:List Nat):List Nat->List Lt->Prop
 | [],l=>l=[]
 | _::_,[]=>False
 | k::K,a::l=>Md K0 (cR ob k) a.ob/\gX ob K0 K l
def gB (K0:List Nat):List Lt->List (Option Ob)->Prop
 | [],l=>l=[]
 | _::_,[]=>False
 | a::l,o::os=>Md K0 o a.ob/\gB K0 l os
def cI:List (Option Ob)->List Nat->List (Option Ob)->List (Option Ob)
 | ob,k::K,a::l=>cI (ob.set k a) K l
 | ob,_,_=>ob
def eO:List Co->List Nat->List Co->List Co
 | cs,k::K,c::l=>eO (cs.set k c) K l
 | cs,_,_=>cs
def dB (K:List Nat):List (Option Ob):=K.map fun _=>none
def tC (n:Nat) (g:Nat->FV) (K:List Nat):List Operand->List FV->Prop
 | [],aa=>aa=[]
 | _::_,[]=>False
 | o::os,a::aa=>Ga K a=some (lk n g o)/\tC n g K os aa
def LI (x:Cx) (g:Nat->FV) (cf:Operand) (f:FuncId) (fst caps:List Tr):Prop:=∀ob cs ts W,RelC x g ob cs ts W->∃us0 us,Act.eval ⟨ts,[]⟩ cf=.func (.func f) us0.toArray us.toArray/\FRL W (x.fr W ob cs) fst us0/\FRL W (x.fr W ob cs) caps us
def LJ:Tr->FV
 | .a l=>.agg (l.map .t)
 | c=>.one (.t c)
def fM (caps:List Tr):List FV:=caps.map LJ
section
variable {x:Cx}{g g':Nat->FV}{ob ob':List (Option Ob)}{cs cs':List Co}{ts ts':Array Value}{W W':World}
theorem Oc (f:FuncId):LI x g (.func f) f [] []:=fun _ _ _ _ _=>⟨[],[],rfl,by simp[FRL],by simp[FRL]⟩
theorem Xl {cf:Operand}{f:FuncId}{fst caps:List Tr}(h:lk x.n g cf=.one (.t (.f f fst caps))):LI x g cf f fst caps:=fun _ _ _ _ hR=>by
 have h1:=hR.lk cf
 rw[h]at h1
 simp only[bV,cE,AR,FR]at h1
 obtain⟨us0,us,e,h2⟩:=h1
 exact⟨us0,us,e,h2⟩
theorem Wc {N:Nat->Prop}:∀{l:List Tr}{us:List Value},FRL W N l us->ARL W N cs (l.map .t) us
 | [],us,h=>by simpa[FRL,ARL]using h
 | y::l,[],h=>by simp only[FRL]at h
 | y::l,u::us,h=>by
  simp only[FRL]at h
  simp only[List.map_cons,ARL,AR]
  exact⟨h.1,Wc h.2⟩
theorem iE:∀{K:List Nat}{l:List (Option Ob)}{ob:List (Option Ob)},(cI ob K l).length=ob.length
 | [],l,ob=>by simp[cI]
 | k::K,[],ob=>by simp[cI]
 | k::K,a::l,ob=>by simp[cI,iE (K:=K)]
theorem pZ:∀{K:List Nat}{l:List Co}{cs:List Co},(eO cs K l).length=cs.length
 | [],l,cs=>by simp[eO]
 | k::K,[],cs=>by simp[eO]
 | k::K,a::l,cs=>by simp[eO,pZ (K:=K)]
theorem jR:∀{K:List Nat}{l:List (Option Ob)}{ob:List (Option Ob)}{j:Nat},j∉K->(cI ob K l)[j]? =ob[j]?
 | [],l,ob,j,_=>by simp[cI]
 | k::K,[],ob,j,_=>by simp[cI]
 | k::K,a::l,ob,j,h=>by
  simp only[RH,not_or]at h
  simp only[cI]
  rw[jR h.2,List.getElem?_set_ne (fun e=>h.1 e.symm)]
theorem sJ:∀{K:List Nat}{l:List Co}{cs:List Co}{j:Nat},j∉K->co (eO cs K l) j=co cs j
 | [],l,cs,j,_=>by simp[eO]
 | k::K,[],cs,j,_=>by simp[eO]
 | k::K,a::l,cs,j,h=>by
  simp only[RH,not_or]at h
  simp only[eO]
  rw[sJ h.2]
  unfold co
  rw[List.getElem?_set_ne (fun e=>h.1 e.symm)]
theorem oR:∀{K:List Nat}{l:List (Option Ob)}{ob:List (Option Ob)}{i k:Nat},K.Nodup->l.length=K.length->K[i]? =some k->k<ob.length->(cI ob K l)[k]? =l[i]?
 | [],l,ob,i,k,_,_,h,_=>by simp at h
 | k0::K,[],ob,i,k,_,hl,_,_=>by simp at hl
 | k0::K,a::l,ob,0,k,hn,hl,h,hk=>by
  simp at h
  subst h
  have hn:=List.nodup_cons.1 hn
  simp only[cI]
  rw[jR hn.1,List.getElem?_set_self hk]
  rfl
 | k0::K,a::l,ob,i+1,k,hn,hl,h,hk=>by
  have hn:=List.nodup_cons.1 hn
  simp only[cI]
  exact oR hn.2 (by simpa using hl) (by simpa using h) (by simpa using hk)
theorem Wd:∀{K:List Nat}{l:List Co}{cs:List Co}{i k:Nat},K.Nodup->l.length=K.length->K[i]? =some k->k<cs.length->co (eO cs K l) k=co l i
 | [],l,cs,i,k,_,_,h,_=>by simp at h
 | k0::K,[],cs,i,k,_,hl,_,_=>by simp at hl
 | k0::K,a::l,cs,0,k,hn,hl,h,hk=>by
  simp at h
  subst h
  have hn:=List.nodup_cons.1 hn
  simp only[eO]
  rw[sJ hn.1]
  simp[co,List.getElem?_set_self hk]
 | k0::K,a::l,cs,i+1,k,hn,hl,h,hk=>by
  have hn:=List.nodup_cons.1 hn
  simp only[eO]
  rw[Wd hn.2 (by simpa using hl) (by simpa using h) (by simpa using hk)]
  simp[co]
theorem Ap {K0:List Nat}:∀{K:List Nat}{l:List Lt},gX ob K0 K l->l.length=K.length
 | [],l,h=>by
  simp only[gX]at h
  simp[h]
 | k::K,[],h=>by simp only[gX]at h
 | k::K,a::l,h=>by
  simp only[gX]at h
  simp[Ap h.2]
theorem nB {K0:List Nat}:∀{K:List Nat}{l:List Lt}{i k:Nat},gX ob K0 K l->K[i]? =some k->∃(a:Lt) (l':List AV),l[i]? =some a/\renL K0 a.l=some l'/\ob[k]? =some (some ⟨a.t,a.z,l'⟩)
 | [],l,i,k,_,h=>by simp at h
 | k0::K,[],i,k,h,_=>by simp only[gX]at h
 | k0::K,a::l,0,k,h,hk=>by
  simp only[gX]at h
  simp at hk
  subst hk
  obtain⟨⟨l',h1,h2⟩,_⟩:=h
  exact⟨a,l',rfl,h1,dL h2⟩
 | k0::K,a::l,i+1,k,h,hk=>by
  simp only[gX]at h
  exact nB (i:=i) h.2 (by simpa using hk)
theorem Iv {K0:List Nat}:∀{l:List Lt}{os:List (Option Ob)},gB K0 l os->os.length=l.length
 | [],l,h=>by
  simp only[gB]at h
  simp[h]
 | k::K,[],h=>by simp only[gB]at h
 | k::K,a::l,h=>by
  simp only[gB]at h
  simp[Iv h.2]
theorem Aq {K0:List Nat}:∀{l:List Lt}{os:List (Option Ob)}{i:Nat}{a:Lt},gB K0 l os->l[i]? =some a->∃l',renL K0 a.l=some l'/\os[i]? =some (some ⟨a.t,a.z,l'⟩)
 | [],_,_,_,_,h=>by simp at h
 | b::l,[],_,_,h,_=>by simp only[gB]at h
 | b::l,o::os,0,a,h,ha=>by
  simp only[gB]at h
  simp at ha
  subst ha
  obtain⟨⟨l',h1,h2⟩,_⟩:=h
  exact⟨l',h1,by rw[h2];rfl⟩
 | b::l,o::os,i+1,a,h,ha=>by
  simp only[gB]at h
  obtain⟨l',h1,h2⟩:=Aq (i:=i) h.2 (by simpa using ha)
  exact⟨l',h1,by simpa using h2⟩
def Rk (K:List Nat) (cl cs2:List Co):Prop:=∀i k,K[i]? =some k->k<cs2.length/\co cs2 k=co cl i
mutual
theorem LK {K:List Nat}{N:Nat->Prop}{cl cs2:List Co}(hc:Rk K cl cs2):∀(a a':AV) (u:Value),jH K a=some a'->AR W N cl a u->AR W N cs2 a' u
 | .t y,a',u,h,hr=>by
  simp only[jH,Option.some.injEq]at h
  subst h
  simpa only[AR]using hr
 | .sl k o n,a',u,h,hr=>by
  simp only[jH]at h
  split at h
  ·rename_i t ht
   simp only[Option.some.injEq]at h
   subst h
   simp only[AR]at hr⊢
   rw[(hc k t ht).2]
   exact⟨(hc k t ht).1,hr.2⟩
  cases h
 | .pt k o,a',u,h,hr=>by
  simp only[jH]at h
  split at h
  ·rename_i t ht
   simp only[Option.some.injEq]at h
   subst h
   simp only[AR]at hr⊢
   rw[(hc k t ht).2]
   exact hr
  cases h
 | .ef l o,a',u,h,hr=>by
  simp only[jH,Option.some.injEq]at h
  subst h
  simpa only[AR]using hr
 | .fn f a b,a',u,h,hr=>by
  simp only[jH]at h
  split at h
  ·rename_i a1 b1 h1 h2
   simp only[Option.some.injEq]at h
   subst h
   simp only[AR]at hr⊢
   obtain⟨us,vs,e,r1,r2⟩:=hr
   exact⟨us,vs,e,ARL_to hc a a1 us h1 r1,ARL_to hc b b1 vs h2 r2⟩
  cases h
theorem ARL_to {K:List Nat}{N:Nat->Prop}{cl cs2:List Co}(hc:Rk K cl cs2):∀(l l':List AV) (us:List Value),renL K l=some l'->ARL W N cl l us->ARL W N cs2 l' us
 | [],l',us,h,hr=>by
  simp only[renL,Option.some.injEq]at h
  subst h
  simpa only[ARL]using hr
 | a::l,l',us,h,hr=>by
  simp only[renL]at h
  split at h
  ·rename_i a1 l1 h1 h2
   simp only[Option.some.injEq]at h
   subst h
   cases us with
   | nil=>simp only[ARL]at hr
   | cons u us=>
    simp only[ARL]at hr⊢
    exact⟨LK hc a a1 u h1 hr.1,ARL_to hc l l1 us h2 hr.2⟩
  cases h
end
theorem YD {N:Nat->Prop}{a:AV}{u:Value}(h:∀z,a≠.t z):CR W N cs a (.w u)↔AR W N cs a u:=by
 cases a with
 | t z=>exact absurd rfl (h z)
 | _=>simp only[CR]
theorem YE {K:List Nat}{a a':AV}(h:jH K a=some a') (hn:∀z,a≠.t z):∀z,a'≠.t z:=by
 intro z e
 subst e
 cases a with
 | t z=>exact hn z rfl
 | ef l o=>simp[jH]at h
 | _=>
  simp only[jH]at h
  split at h <;> simp at h
theorem aBw {K:List Nat}{N:Nat->Prop}{cl cs2:List Co}(hc:Rk K cl cs2){a a':AV}{y:VT}(h:jH K a=some a') (hr:CR W N cl a y):CR W N cs2 a' y:=by
 by_cases ht:∃z,a=.t z
 ·obtain⟨z,rfl⟩:=ht
  simp only[jH,Option.some.injEq]at h
  subst h
  simpa only[CR]using hr
 have hn:∀z,a≠.t z:=fun z e=>ht ⟨z,e⟩
 cases y with
 | w u=>exact(YD (YE h hn)).2 (LK hc _ _ u h ((YD hn).1 hr))
 | _=>
  cases a with
  | t z=>exact absurd rfl (hn z)
  | _=>simp only[CR]at hr
theorem DI {K:List Nat}{N:Nat->Prop}{cl cs2:List Co}(hc:Rk K cl cs2):∀{l l':List AV}{ys:List VT},renL K l=some l'->bZ W N cl l ys->bZ W N cs2 l' ys
 | [],l',ys,h,hr=>by
  simp only[renL,Option.some.injEq]at h
  subst h
  simpa only[bZ]using hr
 | a::l,l',ys,h,hr=>by
  simp only[renL]at h
  split at h
  ·rename_i a1 l1 h1 h2
   simp only[Option.some.injEq]at h
   subst h
   cases ys with
   | nil=>simp only[bZ]at hr
   | cons y ys=>
    simp only[bZ]at hr⊢
    exact⟨aBw hc h1 hr.1,DI hc h2 hr.2⟩
  cases h
theorem Gi {K:List Nat}{l l':List AV}(h:renL K l=some l'):l=[]↔l'=[]:=by
 cases l with
 | nil=>
  simp only[renL,Option.some.injEq]at h
  simp[<-h]
 | cons a l=>
  simp only[renL]at h
  split at h
  ·simp only[Option.some.injEq]at h
   simp[<-h]
  cases h
theorem Ej (b:Nat):∀{K:List Nat}{l:List (Option Ob)}{lc:List Co}{ob:List (Option Ob)}{cs:List Co},K.Nodup->l.length=K.length->lc.length=K.length->ob.length=cs.length->(∀k∈K,k<ob.length)->
  (dO (cI ob K l) (eO cs K lc)).count b=(dO (cI ob K (dB K)) cs).count b+((aL l lc).flatMap Res.S).count b
 | [],l,lc,ob,cs,_,h1,h2,_,_=>by
  obtain rfl:=List.eq_nil_of_length_eq_zero h1
  obtain rfl:=List.eq_nil_of_length_eq_zero h2
  simp[cI,eO,dB,aL]
 | k::K,[],lc,ob,cs,_,h1,h2,_,_=>by simp at h1
 | k::K,a::l,[],ob,cs,_,h1,h2,_,_=>by simp at h2
 | k::K,a::l,c::lc,ob,cs,hn,h1,h2,h3,h4=>by
  have hn':=List.nodup_cons.1 hn
  have hk:=h4 k (by simp)
  have ih1:=Ej b (K:=K) (l:=l) (lc:=lc) (ob:=ob.set k a) (cs:=cs.set k c) hn'.2 (by simpa using h1) (by simpa using h2) (by simpa using h3) (fun j hj=>by simpa using h4 j (List.mem_cons_of_mem _ hj))
  have e1:dB (k::K)=none::dB K:=rfl
  simp only[cI,eO,e1,aL,List.zipWith_cons_cons,List.flatMap_cons,List.count_append]
  unfold aL at ih1
  rw[ih1]
  -- the k-th of the others
  have e2:cI (ob.set k none) K (dB K)=(cI (ob.set k a) K (dB K)).set k none:=by
   apply List.ext_getElem?
   intro j
   by_cases hj:j∈K
   ·obtain⟨i,hi⟩:=List.mem_iff_getElem?.1 hj
    have hkj:k≠j:=fun e=>hn'.1 (e▸hj)
    rw[List.getElem?_set_ne hkj,oR hn'.2 (by simp[dB]) hi (by simpa using h4 j (List.mem_cons_of_mem _ hj)),oR hn'.2 (by simp[dB]) hi (by simpa using h4 j (List.mem_cons_of_mem _ hj))]
   rw[jR hj]
   by_cases hkj:k=j
   ·subst hkj
    rw[List.getElem?_set_self hk,List.getElem?_set_self (by rw[iE];simpa using hk)]
   rw[List.getElem?_set_ne hkj,List.getElem?_set_ne hkj,jR hj,List.getElem?_set_ne hkj]
  have e3:(cI (ob.set k a) K (dB K))[k]? =some a:=by rw[jR hn'.1,List.getElem?_set_self hk]
  have hck:co (cs.set k c) k=c:=by simp[co,List.getElem?_set_self (show k<cs.length by omega)]
  have hl0:(cI (ob.set k a) K (dB K)).length=(cs.set k c).length:=by rw[iE];simpa using h3
  have h5:=uY (r':=aQ none (co cs k)) (cA hl0 e3) b
  rw[hck]at h5
  have e4:(aL (cI (ob.set k a) K (dB K)) (cs.set k c)).set k (aQ none (co cs k))=aL (cI (ob.set k none) K (dB K)) cs:=by
   rw[e2,<-mZ]
   congr 1
   rw[List.set_set,uZ (by omega)]
  have h6:(aQ none (co cs k)).S=[]:=by cases hb:(co cs k).b <;> simp[aQ]
  rw[e4,h6,List.count_nil]at h5
  unfold dO aL
  unfold aL at h5
  omega
theorem pS {K:List Nat}(hn:K.Nodup) (hl:ob.length=cs.length) (hK:∀k∈K,k<ob.length){r:Res}(h:r∈aL (cI ob K (dB K)) cs):r∈aL ob cs\/r.S=[]/\∀W,r.φ W:=by
 obtain⟨j,hj⟩:=List.mem_iff_getElem?.1 h
 by_cases hjK:j∈K
 ·obtain⟨i,hi⟩:=List.mem_iff_getElem?.1 hjK
  have h1:=oR (l:=dB K) hn (by simp[dB]) hi (hK j hjK)
  have h2:(dB K)[i]? =some none:=by simp[dB,hi]
  rw[h2]at h1
  rw[cA (by rw[iE];exact hl) h1]at hj
  injection hj with hj
  subst hj
  refine .inr ⟨?_,fun W=>?_⟩ <;> cases hb:(co cs j).b <;> simp[aQ]
 left
 have h1:=jR (l:=dB K) (ob:=ob) hjK
 cases h2:ob[j]? with
 | none=>
  rw[h2]at h1
  have:¬j<(cI ob K (dB K)).length:=fun h=>by simp[h]at h1
  have h3:=(List.getElem?_eq_some_iff.1 hj).1
  rw[iD (by rw[iE];exact hl)]at h3
  rw[iE]at this
  omega
 | some o=>
  rw[h2]at h1
  rw[cA (by rw[iE];exact hl) h1]at hj
  injection hj with hj
  subst hj
  exact List.mem_of_getElem? (cA hl h2)
theorem Rl {K:List Nat}{N':Nat->Prop}(hR:RelC x g ob cs ts W) (hN:∀b,x.fr W ob cs b->N' b):∀{os:List Operand}{aa:List FV},tC x.n g K os aa->dM W N' (K.map (co cs)) aa (os.map (Act.eval ⟨ts,[]⟩))
 | [],aa,h=>by
  simp only[tC]at h
  simp[h,dM]
 | o::os,[],h=>by simp only[tC]at h
 | o::os,a::aa,h=>by
  simp only[tC]at h
  simp only[List.map_cons,dM]
  refine⟨?_,Rl hR hN h.2⟩
  have:=Vn hN h.1 (hR.lk o)
  cases a with
  | tup l=>simp[Ga]at h
  | _=>exact this
theorem yW {N:Nat->Prop}:∀{l l':List FV}{us us':List Value},dM W N cs l us->dM W N cs l' us'->dM W N cs (l++l') (us++us')
 | [],l',us,us',h,h'=>by
  simp only[dM]at h
  subst h
  simpa using h'
 | a::l,l',u::us,us',h,h'=>by
  simp only[dM]at h
  simp only[List.cons_append,dM]
  exact⟨h.1,yW h.2 h'⟩
 | _::_,_,[],_,h,_=>by simp only[dM]at h
theorem vU {N N':Nat->Prop}(hN:∀b,N b->N' b):∀{caps:List Tr}{us:List Value},FRL W N caps us->dM W N' cs (fM caps) us
 | [],us,h=>by
  simp only[FRL]at h
  simp[h,fM,dM]
 | c::caps,[],h=>by simp only[FRL]at h
 | c::caps,u::us,h=>by
  simp only[FRL]at h
  simp only[fM,List.map_cons,dM]
  refine⟨?_,vU hN h.2⟩
  have h1:=lF (W':=W) (fun _ _=>rfl) hN _ _ h.1
  cases c with
  | a l=>
   simp only[FR]at h1
   obtain⟨us,e,h2⟩:=h1
   exact⟨us,e,Wc h2⟩
  | _=>simpa only[LJ,cE,AR]using h1
theorem Zb {fresh:Bool}{f:FuncId}{args:List FV}{R:List Lt->FV->Prop}{lent:List Lt}{K:List Nat}{os:List Operand}{fst caps:List Tr}{fus cus:List Value}(hS:aE fresh x.P f lent (fM fst++args++fM caps) R) (hK:gX ob K K lent) (hnd:K.Nodup) (ha:tC x.n g K os args) (hfst:FRL W (x.fr W ob cs) fst fus) (hcap:FRL W (x.fr W ob cs) caps cus) (hR:RelC x g ob cs ts W):
  Calls x.P f (fus++os.map (Act.eval ⟨ts,[]⟩)++cus).toArray W (fun e W'=>∃v lent' r ys cl N2,e=.returned v/\R lent' r/\lent'.length=K.length/\cl.length=K.length/\RO W' N2 cl r v ys/\VT.okL W' ys/\(VT.fpL ys).Nodup/\
   ∀(ok:List (Option Ob)),gB K lent' ok->∀(oz:List Ob) (csn:List Co),csn.length=oz.length->(∀b,((aL (oz.map some) csn).flatMap Res.S).count b<=(VT.fpL ys).count b)->(∀r∈aL (oz.map some) csn,r.φ W')->
    (∀b,N2 b->x.fr W' (cI ob K ok++oz.map some) (eO cs K cl++csn) b)/\
    ((∀i o,oz[i]? =some o->bZ W' (x.fr W' (cI ob K ok++oz.map some) (eO cs K cl++csn)) (eO cs K cl++csn) o.l (co csn i).l/\((co csn i).b=none->o.l=[]/\o.z≠0))->
     RelC x g (cI ob K ok++oz.map some) (eO cs K cl++csn) ts W'/\∀d,Aft K d ob cs ts W (cI ob K ok++oz.map some) (eO cs K cl++csn) ts W')):=by
 have hlen:=hR.len
 have hll:=Ap hK
 have hKl:∀k∈K,k<ob.length:=fun k hk=>by
  obtain⟨i,hi⟩:=List.mem_iff_getElem?.1 hk
  obtain⟨a,l',_,_,h2⟩:=nB hK hi
  exact(List.getElem?_eq_some_iff.1 h2).1
 have hlobs:(bR lent).length=K.length:=by rw[nA,hll]
 have hput0:aL (cI ob K (bR lent)) cs=aL ob cs:=by
  have hl0:(cI ob K (bR lent)).length=cs.length:=by rw[iE];exact hlen
  apply List.ext_getElem?
  intro j
  by_cases hjl:j<ob.length
  ·by_cases hj:j∈K
   ·obtain⟨i,hi⟩:=List.mem_iff_getElem?.1 hj
    obtain⟨a,l',h1,_,h2⟩:=nB hK hi
    have h3:=oR hnd hlobs hi hjl
    rw[iU,h1]at h3
    rw[cA hl0 h3,cA hlen h2]
    exact congrArg some (oC _ _)
   have h3:=jR (l:=bR lent) (ob:=ob) hj
   rw[fV hjl]at h3
   rw[cA hl0 h3,cA hlen (fV hjl)]
  rw[List.getElem?_eq_none (by rw[iD hl0];omega),List.getElem?_eq_none (by rw[iD hlen];omega)]
 have hputc:eO cs K (K.map (co cs))=cs:=by
  have key:∀(K:List Nat),(∀k∈K,k<cs.length)->eO cs K (K.map (co cs))=cs:=by
   intro K
   induction K with
   | nil=>intro _;rfl
   | cons k K ih=>
    intro h
    simp only[List.map_cons,eO]
    rw[uZ (h k (by simp))]
    exact ih fun j hj=>h j (List.mem_cons_of_mem _ hj)
  exact key K fun k hk=>by rw[<-hlen];exact hKl k hk
 have hcnt0:=fun b=>Ej b (l:=bR lent) (lc:=K.map (co cs)) (cs:=cs) hnd hlobs (by simp) hlen hKl
 unfold dO at hcnt0
 rw[hputc,hput0]at hcnt0
 have hfr0:∀b,x.fr W ob cs b->pT W (aL (bR lent) (K.map (co cs))) b:=fun b hb=>And.intro hb.1.1 fun hm=>hb.1.2 (by
  have h1:=List.count_pos_iff.2 hm
  have h2:=hcnt0 b
  exact List.count_pos_iff.1 (show 0<((aL ob cs).flatMap Res.S).count b by omega))
 have hgetL:∀i k,K[i]? =some k->∃(a:Lt) (l':List AV),lent[i]? =some a/\renL K a.l=some l'/\ob[k]? =some (some (⟨a.t,a.z,l'⟩:Ob)):=fun i k hi=>nB hK hi
 have hφ0:∀r∈aL (bR lent) (K.map (co cs)),r.φ W:=fun r hr=>by
  obtain⟨i,hi⟩:=List.mem_iff_getElem?.1 hr
  have hil:=(List.getElem?_eq_some_iff.1 hi).1
  have hil2:i<K.length:=by
   rw[iD (by simp[hlobs])]at hil
   simpa using hil
  obtain⟨a,l',h1,_,h2⟩:=hgetL i K[i] (fV hil2)
  have e1:(bR lent)[i]? =some (some a.ob):=by rw[iU,h1];rfl
  rw[cA (by simp[hlobs]) e1,oB (fV hil2)]at hi
  injection hi with hi
  subst hi
  rw[show aQ (some a.ob) (co cs K[i])=aQ (some ⟨a.t,a.z,l'⟩) (co cs K[i]) from oC _ _]
  exact hR.res h2
 have h1:Loc x.M x.w W (aL (bR lent) (K.map (co cs))++aL (cI ob K (dB K)) cs) []:=(hR.2.pickS []).cut (fun b=>by
  rw[List.flatMap_append,List.count_append]
  have:=hcnt0 b
  omega) (fun r hr=>by
  rcases List.mem_append.1 hr with hr | hr
  ·exact hφ0 r hr
  rcases pS hnd hlen hKl hr with hr | hr
  ·exact hR.2.res r hr
  exact hr.2 W)
 have h2:Loc ((aL (bR lent) (K.map (co cs))).flatMap Res.S) W W (aL (bR lent) (K.map (co cs))) [(DD lent (K.map (co cs)) (fM fst++args++fM caps) (fus++os.map (Act.eval ⟨ts,[]⟩)++cus)).on (x.fr W ob cs)]:=by
  refine h1.focus.read _ ⟨⟨by simp[hlobs],fun k o hk=>?_⟩,yW (yW (vU (fun b hb=>⟨hfr0 b hb,hb⟩) hfst) (Rl hR (fun b hb=>⟨hfr0 b hb,hb⟩) ha)) (vU (fun b hb=>⟨hfr0 b hb,hb⟩) hcap)⟩
  rw[iU]at hk
  cases hq:lent[k]? with
  | none=>rw[hq]at hk;cases hk
  | some a=>
   rw[hq]at hk
   simp at hk
   subst hk
   have hkK:k<K.length:=by rw[<-hll];exact(List.getElem?_eq_some_iff.1 hq).1
   obtain⟨a',l',q1,q0,q2⟩:=hgetL k K[k] (fV hkK)
   rw[hq]at q1
   injection q1 with q1
   subst q1
   have q3:=hR.obs.2 _ _ q2
   rw[oB (fV hkK)]
   exact⟨Ed (fun b hb=>⟨hfr0 b hb,hb⟩) q0 q3.1,fun h=>⟨(Gi q0).2 (q3.2 h).1,(q3.2 h).2⟩⟩
 refine(hS _ W _ _ h2).mono fun e W' hE=>?_
 obtain⟨v,lent',cl,r,ys,rfl,hr,hl',hty,hcl,hsame,h3⟩:=hE
 have h4:=Loc.turn h1 h3
 have hsh:=Sh.off (h3.sh 0 rfl)
 have hcl':cl.length=K.length:=by simpa using hcl
 have hlK:lent'.length=K.length:=by rw[hl',hll]
 refine⟨v,lent',r,ys,cl,_,rfl,hr,hlK,hcl',hsh.2,h3.res (gG ys) (by simp),?_,fun ok hbk oz csn hlz hcz hφz=>?_⟩
 ·have:=h3.nd
  rw[List.flatMap_append,List.nodup_append]at this
  simpa[gG]using this.2.1
 have hlob':ok.length=K.length:=by rw[Iv hbk,hlK]
 have hrk:aL ok cl=aL (bR lent') cl:=by
  apply List.ext_getElem?
  intro j
  by_cases hj:j<lent'.length
  ·obtain⟨l',q1,q2⟩:=Aq hbk (fV hj)
   rw[cA (by rw[hlob',hcl']) q2,cA (ob:=bR lent') (by rw[nA,hlK,hcl']) (o:=some (lent'[j]).ob) (by rw[iU,fV hj];rfl)]
   exact congrArg some (oC _ _)
  rw[List.getElem?_eq_none (by rw[iD (by rw[hlob',hcl'])];omega),List.getElem?_eq_none (by rw[iD (by rw[nA,hlK,hcl'])];omega)]
 have hlen2:(cI ob K ok).length=(eO cs K cl).length:=by rw[iE,pZ];exact hlen
 have hrs:aL (cI ob K ok++oz.map some) (eO cs K cl++csn)=aL (cI ob K ok) (eO cs K cl)++aL (oz.map some) csn:=by
  unfold aL
  rw[List.zipWith_append hlen2]
 have hcnt2:∀b,(dO (cI ob K ok++oz.map some) (eO cs K cl++csn)).count b<=(((aL (bR lent') cl++[gG ys])++aL (cI ob K (dB K)) cs).flatMap Res.S).count b:=fun b=>by
  have q1:=Ej b (l:=ok) (lc:=cl) (cs:=cs) hnd hlob' hcl' hlen hKl
  rw[hrk]at q1
  have q2:=hcz b
  unfold dO at q1⊢
  rw[hrs,List.flatMap_append,List.count_append,List.flatMap_append,List.count_append,List.flatMap_append,List.count_append,List.flatMap_cons,List.flatMap_nil,List.append_nil]
  have q3:(gG ys).S=VT.fpL ys:=rfl
  rw[q3]
  omega
 have hin2:∀b,b∈dO (cI ob K ok++oz.map some) (eO cs K cl++csn)->b∈((aL (bR lent') cl++[gG ys])++aL (cI ob K (dB K)) cs).flatMap Res.S:=fun b hb=>List.count_pos_iff.1 (Nat.lt_of_lt_of_le (List.count_pos_iff.2 hb) (hcnt2 b))
 have hrest:∀b,b∈(aL (cI ob K (dB K)) cs).flatMap Res.S->b∈dO ob cs:=fun b hb=>by
  obtain⟨r,hr,hb⟩:=List.mem_flatMap.1 hb
  rcases pS hnd hlen hKl hr with hr | hr
  ·exact List.mem_flatMap.2 ⟨r,hr,hb⟩
  rw[hr.1]at hb
  cases hb
 have hlentS:∀b,b∈(aL (bR lent) (K.map (co cs))).flatMap Res.S->b∈dO ob cs:=fun b hb=>by
  have q1:=List.count_pos_iff.2 hb
  have q2:=hcnt0 b
  exact List.count_pos_iff.1 (show 0<((aL ob cs).flatMap Res.S).count b by omega)
 have hfree:∀b,pT W' (aL (bR lent') cl++[gG ys]) b->(x.fr W ob cs b\/b∈(aL (bR lent) (K.map (co cs))).flatMap Res.S\/W.heap.size<=b)->x.fr W' (cI ob K ok++oz.map some) (eO cs K cl++csn) b:=fun b hb hb'=>by
  refine⟨⟨hb.1,fun hm=>?_⟩,?_⟩
  ·have hm:=hin2 b hm
   rw[List.flatMap_append,List.mem_append]at hm
   rcases hm with hm | hm
   ·exact hb.2 hm
   have hm2:=hrest b hm
   rcases hb' with hb' | hb' | hb'
   ·exact hb'.1.2 hm2
   ·have q1:=hcnt0 b
    have q2:=List.nodup_iff_count.1 hR.2.nd b
    have q3:=List.count_pos_iff.2 hb'
    have q4:=List.count_pos_iff.2 hm
    unfold dO at q1
    omega
   have:=(hR.2.blk b hm2).2
   omega
  rcases hb' with hb' | hb' | hb'
  ·exact hb'.2
  ·exact .inr (hR.2.blk b (hlentS b hb')).1
  exact .inr (.inr (Nat.le_trans hR.2.chg.size hb'))
 have hsize:W.heap.size<=W'.heap.size:=h3.chg.size
 have hfr:∀b,x.fr W ob cs b->x.fr W' (cI ob K ok++oz.map some) (eO cs K cl++csn) b:=fun b hb=>by
  refine hfree b ⟨Nat.lt_of_lt_of_le hb.1.1 hsize,fun hm=>?_⟩ (.inl hb)
  have q1:=h3.blk b hm
  rcases q1.1 with q1 | q1
  ·exact hb.1.2 (hlentS b q1)
  have:=hb.1.1
  omega
 have hkeep:∀b,x.fr W ob cs b->W'.heap[b]? =W.heap[b]? :=fun b hb=>h3.chg.block b hb.1.1 (fun hm=>hb.1.2 (hlentS b hm))
 refine⟨fun b hb=>hfree b hb.2.1 hb.2.2,fun hoz=>?_⟩
 have hcoK:∀i k,K[i]? =some k->co (eO cs K cl) k=co cl i:=fun i k hi=>Wd hnd hcl' hi (by rw[<-hlen];exact hKl k (List.mem_of_getElem? hi))
 have hsame2:Same cs (eO cs K cl):=⟨by rw[pZ];exact aX _,fun k hk=>by
  by_cases hkK:k∈K
  ·obtain⟨i,hi⟩:=List.mem_iff_getElem?.1 hkK
   have:=hsame.2 i (by simpa using(List.getElem?_eq_some_iff.1 hi).1)
   rw[oB hi]at this
   rw[hcoK i k hi]
   exact this
  rw[sJ hkK]
  exact⟨rfl,rfl⟩⟩
 have happ:∀{k},k<(eO cs K cl).length->co (eO cs K cl++csn) k=co (eO cs K cl) k:=fun hk=>by simp[co,List.getElem?_append_left hk]
 have hsame3:Same cs (eO cs K cl++csn):=hsame2.trans ⟨by simp,fun k hk=>by rw[happ hk];exact⟨rfl,rfl⟩⟩
 have hLf:Loc x.M x.w W' (aL (cI ob K ok++oz.map some) (eO cs K cl++csn)) []:=h4.cut hcnt2 (fun r hr=>by
  rw[hrs]at hr
  rcases List.mem_append.1 hr with hr | hr
  ·obtain⟨j,hj⟩:=List.mem_iff_getElem?.1 hr
   have hjl:=(List.getElem?_eq_some_iff.1 hj).1
   rw[iD hlen2,pZ,<-hlen]at hjl
   by_cases hjK:j∈K
   ·obtain⟨i,hi⟩:=List.mem_iff_getElem?.1 hjK
    have q1:=oR hnd hlob' hi (hKl j hjK)
    have q2:i<ok.length:=by rw[hlob'];exact(List.getElem?_eq_some_iff.1 hi).1
    rw[fV q2]at q1
    rw[cA hlen2 q1,hcoK i j hi]at hj
    injection hj with hj
    subst hj
    refine h3.res _ (List.mem_append_left _ (by rw[<-hrk];exact List.mem_of_getElem? (cA (by rw[hlob',hcl']) (fV q2))))
   have q1:(cI ob K ok)[j]? =ob[j]? :=jR hjK
   rw[fV hjl]at q1
   rw[cA hlen2 q1,sJ hjK]at hj
   injection hj with hj
   subst hj
   have q2:(cI ob K (dB K))[j]? =ob[j]? :=jR hjK
   rw[fV hjl]at q2
   exact h4.res _ (List.mem_append_right _ (List.mem_of_getElem? (cA (by rw[iE];exact hlen) q2)))
  exact hφz r hr)
 refine⟨.of hR.1 hLf ⟨by rw[cJ,cJ,hlen2,dP,hlz],fun k o hk=>?_⟩ (fun i hi=>?_) (hR.3.trans hsame3),fun d=>⟨hsame3,fun k hk hkc=>?_,hsize,fun b hlt hb=>?_,fun b hb=>?_,fun _ _=>rfl⟩⟩
 ·rcases Nat.lt_or_ge k (cI ob K ok).length with hlt | hge
  ·rw[List.getElem?_append_left hlt]at hk
   rw[happ (by rw[<-hlen2];exact hlt)]
   rw[iE]at hlt
   by_cases hkK:k∈K
   ·obtain⟨i,hi⟩:=List.mem_iff_getElem?.1 hkK
    rw[oR hnd hlob' hi hlt]at hk
    have hil:i<lent'.length:=by rw[hlK];exact(List.getElem?_eq_some_iff.1 hi).1
    obtain⟨l',q0,q2⟩:=Aq hbk (fV hil)
    rw[q2]at hk
    injection hk with hk
    injection hk with hk
    subst hk
    have q1:=hsh.1.2 i (lent'[i]).ob (by rw[iU,fV hil];rfl)
    rw[hcoK i k hi]
    have q3:Rk K cl (eO cs K cl++csn):=fun i k hi=>by
     have hkl:=hKl k (List.mem_of_getElem? hi)
     have hkp:k<(eO cs K cl).length:=by rw[pZ,<-hlen];exact hkl
     exact⟨by rw[cJ];omega,by rw[happ hkp,hcoK i k hi]⟩
    exact⟨dI (fun _ _=>rfl) (fun b hb=>hfree b hb.2.1 hb.2.2) .refl _ _ (DI q3 q0 q1.1),fun h=>⟨(Gi q0).1 (q1.2 h).1,(q1.2 h).2⟩⟩
   rw[jR hkK]at hk
   rw[sJ hkK]
   have q1:=hR.obs.2 k o hk
   exact⟨dI hkeep hfr hsame3 _ _ q1.1,q1.2⟩
  rw[List.getElem?_append_right hge]at hk
  have ho:oz[k-(cI ob K ok).length]? =some o:=by
   rw[List.getElem?_map]at hk
   cases hq:oz[k-(cI ob K ok).length]? with
   | none=>rw[hq]at hk;cases hk
   | some o'=>
    rw[hq]at hk
    simp at hk
    rw[hk]
  have q1:=hoz _ o ho
  have e:co (eO cs K cl++csn) k=co csn (k-(cI ob K ok).length):=by
   unfold co
   rw[List.getElem?_append_right (by rw[<-hlen2];exact hge),hlen2]
  rw[e]
  exact q1
 ·obtain⟨u,q1,q2⟩:=hR.fv hi
  exact⟨u,q1,gC hkeep hfr hsame3 _ _ q2⟩
 ·rw[happ (by rw[pZ];exact hkc),sJ hk]
 ·refine h3.chg.block b hlt fun hm=>?_
  obtain⟨r,hr,hbr⟩:=List.mem_flatMap.1 hm
  obtain⟨i,hi⟩:=List.mem_iff_getElem?.1 hr
  have hil:=(List.getElem?_eq_some_iff.1 hi).1
  have hil2:i<K.length:=by
   rw[iD (by simp[hlobs])]at hil
   simpa using hil
  obtain⟨a,l',q1,_,q2⟩:=hgetL i K[i] (fV hil2)
  have e1:(bR lent)[i]? =some (some a.ob):=by rw[iU,q1];rfl
  rw[cA (by simp[hlobs]) e1,oB (fV hil2)]at hi
  injection hi with hi
  subst hi
  rw[show aQ (some a.ob) (co cs K[i])=aQ (some ⟨a.t,a.z,l'⟩) (co cs K[i]) from oC _ _]at hbr
  exact hb K[i] (List.getElem_mem hil2) _ q2 hbr
 have q1:=hin2 b hb
 rw[List.flatMap_append,List.mem_append]at q1
 rcases q1 with q1 | q1
 ·rcases(h3.blk b q1).1 with q2 | q2
  ·exact .inl (hlentS b q2)
  exact .inr q2
 exact .inl (hrest b q1)
end
theorem Rm {k:Nat}{a:AV}(h:(Ct k a).isSome=true):∃y,a=.t y:=by
 cases a with
 | t y=>exact⟨y,rfl⟩
 | _=>simp[Ct]at h
theorem Rn {W:World}{N:Nat->Prop}{cs:List Co}:∀{l:List AV}{k:Nat}{r:List AV×List Ob}{ys:List VT},tZ k l=some r->bZ W N cs l ys->bZ W N [] l ys
 | [],_,_,ys,_,h=>by simpa[bZ]using h
 | a::l,k,r,[],_,h=>by simp only[bZ]at h
 | a::l,k,r,y::ys,hb,h=>by
  simp only[bZ]at h⊢
  unfold tZ at hb
  split at hb
  ·rename_i a' ha
   split at hb
   ·rename_i l' os hl
    obtain⟨z,rfl⟩:=Rm (k:=k) (by rw[ha];rfl)
    exact⟨h.1,Rn hl h.2⟩
   cases hb
  ·rename_i a' o r' ha
   split at hb
   ·rename_i l' os hl
    obtain⟨z,rfl⟩:=Rm (k:=k) (by rw[ha];rfl)
    exact⟨h.1,Rn hl h.2⟩
   cases hb
  cases hb
theorem Ro {W:World}{N:Nat->Prop}{cs:List Co}{k:Nat}{r:FV}{b:FV×List Ob}{u:Value}{ys:List VT}(hb:Cu k r=some b) (h:Bf W N cs r u ys):Bf W N [] r u ys:=by
 cases r with
 | any=>exact h.elim
 | tup l=>exact h.elim
 | one a=>
  unfold Cu at hb
  dsimp only at hb
  split at hb
  ·rename_i a' os ha
   obtain⟨z,rfl⟩:=Rm (k:=k) (by rw[ha];rfl)
   exact h
  cases hb
 | agg l=>
  unfold Cu at hb
  dsimp only at hb
  split at hb
  ·rename_i l' os hl
   exact⟨h.1,Rn hl h.2⟩
  cases hb
theorem DJ {W:World}{N:Nat->Prop}{cs:List Co}:∀{l:List FV}{k:Nat}{b:List FV×List Ob}{us:List Value}{ys:List VT},Gh k l=some b->Cp W N cs l us ys->Cp W N [] l us ys
 | [],_,_,us,ys,_,h=>h
 | a::l,k,b,us,ys,hb,⟨v,vs,y1,y2,h1,h2,h3,h4⟩=>by
  unfold Gh at hb
  split at hb
  ·rename_i a' os ha
   split at hb
   ·rename_i l' os' hl
    exact⟨v,vs,y1,y2,h1,h2,Ro ha h3,DJ hl h4⟩
   cases hb
  cases hb
theorem LL {W:World}{N:Nat->Prop}{cs:List Co}{k:Nat}{r:FV}{b:FV×List Ob}{u:Value}{ys:List VT}(hb:oU k r=some b) (h:RO W N cs r u ys):RO W N [] r u ys:=by
 cases r with
 | tup l=>
  obtain⟨vs,e,h⟩:=h
  unfold oU at hb
  dsimp only at hb
  split at hb
  ·rename_i l' os hl
   exact⟨vs,e,DJ hl h⟩
  cases hb
 | any=>exact h.elim
 | one a=>exact Ro (r:=.one a) hb h
 | agg l=>exact Ro (r:=.agg l) hb h
section
variable {x:Cx}{g g':Nat->FV}{ob ob':List (Option Ob)}{cs cs':List Co}{ts ts':Array Value}{W W':World}{T:List (Nat×TI)}{Q:Post}{ops:Array Oper}{rest:List Oper}{d:Nat}{op:Op}{ty:TypeId}{pos:String}{af:Array Edge}{gd:Option (Nat×Bool)}
theorem Mn {cf:Operand}{f:FuncId}{us0 us:List Value}{aa:Array Operand}{ats:Array TypeId}(hf:CallOk x.P f) (e0:Act.eval ⟨ts,[]⟩ cf=.func (.func f) us0.toArray us.toArray):
  (execOp (Act.eval ⟨ts,[]⟩) ⟨some d,.call ⟨.value cf,aa,ats⟩,ty,pos,af,gd⟩).run x.P W=.ok (.enter f (us0++aa.toList.map (Act.eval ⟨ts,[]⟩)++us).toArray) W:=by
 obtain⟨fn,c,h1,h2,h3⟩:=hf
 have e1:aa.map (Act.eval ⟨ts,[]⟩)=(aa.toList.map (Act.eval ⟨ts,[]⟩)).toArray:=by apply Array.ext';simp only[Array.toList_map]
 simp[execOp,resolve,e0,Deferred.ofValue,invoke,e1,callFunc,h1,h3]
 intro hn
 rw[hn]at h2
 simp at h2
theorem vJ {fresh:Bool}{f:FuncId}{args:List FV}{R:List Lt->FV->Prop}{lent:List Lt}{K:List Nat}{aa:Array Operand}{ats:Array TypeId}{cf:Operand}{fst caps:List Tr}{key:Nat}(hS:aE fresh x.P f lent (fM fst++args++fM caps) R) (hf:CallOk x.P f) (hc:LI x g cf f fst caps) (hK:gX ob K K lent) (hnd:K.Nodup) (ha:tC x.n g K aa.toList args) (hk:eM ob key=true) (hb:∀l r,R l r->l.length=K.length->(oU key r).isSome=true/\∃ok,gB K l ok):
  OS x ⟨some d,.call ⟨.value cf,aa,ats⟩,ty,pos,af,gd⟩ g ob K (fun g' ob'=>∃l r v os ok,R l r/\l.length=K.length/\oU key r=some (v,os)/\gB K l ok/\g'=bG g d v/\ob'=cI ob K ok++os.map some):=by
 intro cs ts W hR K' Q kk
 obtain⟨us0,us,e0,hfst,hcap⟩:=hc ob cs ts W hR
 unfold Oper.wp
 rw[Mn hf e0]
 refine(Zb hS hK hnd ha hfst hcap hR).mono fun e W' hE=>?_
 obtain⟨v,lent',r,ys,cl,N2,rfl,hr,hl1,hl2,hro,hok,hndy,fin⟩:=hE
 obtain⟨hb1,ok,hbk⟩:=hb _ r hr hl1
 obtain⟨⟨v',os⟩,hbn⟩:=Option.isSome_iff_exists.1 hb1
 obtain⟨csn,e1,e2,e3,e4⟩:=Rh (LL hbn hro) hok hbn
 obtain⟨hN,hfin⟩:=fin ok hbk os csn e1 (fun b=>by rw[e2];exact aX _) e3
 have hk:=Nat.eq_of_beq_eq_true hk
 have hpl:(eO cs K cl).length=key:=by rw[pZ,<-hR.len,hk]
 obtain⟨g1,g2⟩:=e4 _ (eO cs K cl++csn) hN (by simp[hpl,e1]) (fun i _=>by
  unfold co
  rw[List.getElem?_append_right (by omega),hpl,show key+i-key=i by omega])
 obtain⟨m1,m2⟩:=hfin g2
 exact kk _ _ _ _ _ ⟨lent',r,v',os,ok,hr,hl1,hbn,hbk,rfl,rfl⟩ (m1.put d g1) ((m2 (some d)).then_put v)
theorem LM {late:Nat->Bool}{K fr:List Nat}{fuel:Nat}{listed:Array Bool}{o:Oper}{Wr:List Nat}{R:(Nat->FV)->List (Option Ob)->Prop}(i:Nat) (hi:ops[i]? =some o) (hd:o.dst=some d) (hw:bK ops x.n g o.guard=some true) (h:OS x o g ob Wr R) (hW:∀k∈K,k∉Wr)
  (hg:∀g' ob',R g' ob'->(∃v,g'=bG g d v)/\∀k∈K,ob'[k]? =ob[k]?) (k:∀g' ob',R g' ob'->WD x ops Q late K (d::fr) true fuel (listed.setIfInBounds i true) g' ob'):WO x ops Q late K fr true fuel listed i g ob:=by
 refine JQ i hi hw h true (fun _=>⟨rfl,hW⟩) (fun _=>rfl) (fun _ g' ob' hR=>?_) fun g' ob' hR=>by rw[hd];exact k g' ob' hR
 obtain⟨⟨v,h1⟩,h2⟩:=hg g' ob' hR
 exact⟨by rw[hd,h1];exact yV,h2⟩
theorem Zc {late:Nat->Bool}{K fr:List Nat}{fuel:Nat}{listed:Array Bool}{o:Oper}{Wr:List Nat}{R:(Nat->FV)->List (Option Ob)->Prop}(i:Nat) (hr:Region.ready .any ops listed=[i]) (hi:ops[i]? =some o) (hd:o.dst=some d) (hw:bK ops x.n g o.guard=some true) (h:OS x o g ob Wr R) (hW:∀k∈K,k∉Wr)
  (hg:∀g' ob',R g' ob'->(∃v,g'=bG g d v)/\∀k∈K,ob'[k]? =ob[k]?) (k:∀g' ob',R g' ob'->WD x ops Q late K (d::fr) true fuel (listed.setIfInBounds i true) g' ob'):WD x ops Q late K fr true (fuel+1) listed g ob:=
 WO.one hr (LM i hi hd hw h hW hg k)
theorem tD {K0:List Nat}:∀{l:List Lt}{a b:List (Option Ob)},gB K0 l a->gB K0 l b->a=b
 | [],a,b,h,h'=>by
  simp only[gB]at h h'
  rw[h,h']
 | x::l,[],b,h,_=>by simp only[gB]at h
 | x::l,a::al,[],_,h=>by simp only[gB]at h
 | x::l,a::al,b::bl,h,h'=>by
  simp only[gB]at h h'
  obtain⟨⟨l1,e1,e2⟩,h2⟩:=h
  obtain⟨⟨l2,f1,f2⟩,h3⟩:=h'
  rw[e1]at f1
  injection f1 with f1
  subst f1
  rw[e2,f2,tD h2 h3]
def Rt (l0:List Lt) (r0:FV):List Lt->FV->Prop:=fun l r=>l=l0/\r=r0
theorem Pg {i:Nat}{v:FV}(hi:Nat.blt i x.n=true) (h:∀W N cs u,bV W N cs (g i) u->bV W N cs v u):Sub x g ob (bG g i v) ob:=by
 rintro ts W ⟨cs,hR⟩
 have hi:i<x.n:=by simpa[Nat.blt,Nat.lt_iff_add_one_le]using hi
 obtain⟨u,e1,e2⟩:=hR.fv hi
 have e3:ts.setIfInBounds i u=ts:=by
  apply Array.ext_getElem?
  intro j
  by_cases hj:i=j
  ·subst hj
   have:i<ts.size:=by rw[hR.1];exact hi
   rw[Array.getElem?_setIfInBounds_self_of_lt this,e1]
  rw[Array.getElem?_setIfInBounds_ne hj]
 have:=hR.put i (h _ _ _ _ e2)
 rw[e3]at this
 exact⟨cs,this⟩
theorem VL {i t:Nat}{o:Bool}{l:List Tr}(hi:Nat.blt i x.n=true) (h:g i=.one (.t (.p o t l))):Sub x g ob (bG g i (.one (.ef l 0))) ob:=Pg hi fun W N cs u hu=>by
 rw[h]at hu
 simp only[bV,cE,AR,FR]at hu⊢
 obtain⟨ad,h1,h2,h3⟩:=hu
 exact⟨ad,h2,h3,by rw[Gx];exact h1⟩
theorem YF {t e z by_:Nat}{zz:Value}{ti:Bool}{ts0:Nat}{z0:List Value}{a:Operand}{t2:TypeId}{m:Nat}(hT:cH x.P T) (ht:bX T t=some ⟨ti,ts0,z0,.sl e z by_ zz⟩) (ha:pA (lk x.n g a)=some m):
  OS x ⟨some d,.binOp .eql t a (.const (.slice none 0 0)) t2,ty,pos,af,gd⟩ g ob [] (fun g' ob'=>∃q:Bool,(q=true->m=0)/\g'=bG g d (.one (tv (.bool q)))/\ob'=ob):=by
 obtain⟨hts,_⟩:=(dX hT ht).2.2.2
 obtain⟨i,e1,_,_⟩:=hts
 intro cs ts W hR K Q kk
 obtain⟨A,c,hu⟩:=Vi (hR.lk a) ha
 have h0:∀A c,Act.eval ⟨ts,[]⟩ a=.slice A m c->(A=none->m=0):=by
  intro A c hu hA
  subst hA
  have hv:=hR.lk a
  rw[hu]at hv
  cases hlk:lk x.n g a with
  | any=>rw[hlk]at ha;simp[pA]at ha
  | agg l=>rw[hlk]at ha;simp[pA]at ha
  | tup l=>rw[hlk]at ha;simp[pA]at ha
  | one av=>
   rw[hlk]at hv ha
   cases av with
   | pt=>simp[pA]at ha
   | ef=>simp[pA]at ha
   | fn=>simp[pA]at ha
   | sl k o n=>
    simp only[bV,cE,AR]at hv
    cases hb:(co cs k).b with
    | none=>
     rw[hb]at hv
     obtain⟨_,h1,_,h3⟩:=hv
     injection h3
    | some b=>
     rw[hb]at hv
     obtain⟨_,_,_,h3,_⟩:=hv
     injection h3 with h3
     cases h3
   | t y=>
    cases y with
    | p=>simp[pA]at ha
    | f=>simp[pA]at ha
    | a=>simp[pA]at ha
    | s o t z n l=>
     simp only[bV,cE,AR,FR]at hv
     obtain⟨A,c,h1,_,_,_,h5⟩:=hv
     injection h1 with h1 h2 _
     subst h1
     rcases h5 with h5 | ⟨ad,h5,_⟩
     ·omega
     cases h5
    | v w=>
     simp only[bV,cE,AR,FR]at hv
     subst hv
     unfold pA at ha
     split at ha
     ·rename_i h9
      cases h9
     ·rename_i h9
      cases h9
     ·rename_i h9
      injection ha with ha
      exact ha.symm
     cases ha
 have hrun:(execOp (Act.eval ⟨ts,[]⟩) ⟨some d,.binOp .eql t a (.const (.slice none 0 0)) t2,ty,pos,af,gd⟩).run x.P W=.ok (.value (.bool A.isNone)) W:=by
  have h3:∀A:Option Addr,(Op.equal t (.slice A m c) (.slice none 0 0)).run x.P W=.ok A.isNone W:=fun A=>by
   show(Op.equalIn (9999+1) t (.slice A m c) (.slice none 0 0)).run x.P W=_
   rw[Op.equalIn]
   simp only[Sem.run_bind,run_underlying e1,Result.andThen_ok]
   cases A <;> rfl
  have h4:Act.eval ⟨ts,[]⟩ (.const (.slice none 0 0))=.slice none 0 0:=rfl
  simp only[execOp,hu,h4,eqGuard_at_slice,binOp,Sem.run_bind,Sem.run_pure,Result.andThen_ok,h3]
 refine eN hrun (kk _ _ _ _ _ ⟨A.isNone,fun h=>h0 A c hu (by simpa using h),rfl,rfl⟩ (hR.put d (v:=.one (tv (.bool A.isNone))) (by simp[bV,cE,tv,AR,FR])) (.put d _))
theorem IC {z:Array Value}{n:Nat}(h0:0<z.size):(Builtin.zeroCells z n).toList=lX z.toList n:=by
 unfold Builtin.zeroCells
 apply List.ext_getElem?
 intro j
 simp only[Array.toList_map,Array.toList_range,List.getElem?_map]
 by_cases hj:j<n*z.size
 ·rw[List.getElem?_range hj,Gg (by simpa using hj)]
  simp only[Option.map_some]
  have hm:j%z.size<z.size:=Nat.mod_lt _ h0
  rw[getElem!_pos z _ hm]
  simp[hm]
 rw[List.getElem?_eq_none (by simp;omega),List.getElem?_eq_none (by simp[Ao];omega)]
 rfl
theorem DK:∀{us:List Value},dR (us.map tv)=true->∀n,dR ((lX us n).map tv)=true
 | us,h,0=>rfl
 | us,h,n+1=>by
  have ih:=DK h n
  have app:∀(a b:List AV),dR a=true->dR b=true->dR (a++b)=true:=by
   intro a b
   induction a with
   | nil=>intro _ h;exact h
   | cons c a ih=>
    intro h1 h2
    simp only[dR,Bool.and_eq_true]at h1
    simp only[List.cons_append,dR,Bool.and_eq_true]
    exact⟨h1.1,ih h1.2 h2⟩
  unfold lX
  rw[List.map_append]
  exact app _ _ h ih
theorem YG {t e z by_ k o n:Nat}{zz:Value}{ti:Bool}{ts0:Nat}{z0:List Value}{bo:Ob}{a:Operand}(hT:cH x.P T) (ht:bX T t=some ⟨ti,ts0,z0,.sl e z by_ zz⟩) (ha:lk x.n g a=.one (.sl k o n)) (ho:cR ob k=some bo) (hle:o+n*z<=bo.l.length) (hlo:dR (zz.cells.toList.map tv)=true):
  OS x ⟨none,.call ⟨.builtin .clear, #[a], #[t]⟩,ty,pos,af,gd⟩ g ob [k] (fun g' ob2=>g'=g/\ob2=ob.set k (some ⟨bo.t,bo.z,eD bo.l o ((lX zz.cells.toList n).map tv)⟩)):=by
 obtain⟨_,ht',i,hi,hz,hsize,hby,hzs,hsz⟩:=(dX hT ht).2.2.2
 have hk:=dL ho
 intro cs ts W hR K Q kk
 have hu:=hR.lk a
 rw[ha]at hu
 simp only[bV,cE,AR]at hu
 have idle:n=0->(execOp (Act.eval ⟨ts,[]⟩) ⟨none,.call ⟨.builtin .clear, #[a], #[t]⟩,ty,pos,af,gd⟩).run x.P W=.ok (.value (.tuple #[])) W->Oper.wp x.P ⟨none,.call ⟨.builtin .clear, #[a], #[t]⟩,ty,pos,af,gd⟩ ⟨ts,[]⟩ W K Q:=fun h0 hrun=>by
  subst h0
  unfold Oper.wp
  rw[hrun]
  have e1:eD bo.l o ((lX zz.cells.toList 0).map tv)=bo.l:=by simp[eD,lX]
  have e2:ob.set k (some ⟨bo.t,bo.z,eD bo.l o ((lX zz.cells.toList 0).map tv)⟩)=ob:=by
   rw[e1]
   apply List.ext_getElem?
   intro j
   by_cases hj:k=j
   ·subst hj
    rw[List.getElem?_set_self (List.getElem?_eq_some_iff.1 hk).1,hk]
   rw[List.getElem?_set_ne hj]
  refine kk g _ cs ts W ⟨rfl,rfl⟩ (by rw[e2];exact hR) (by rw[e2];exact⟨.refl,fun _ _ _=>rfl,aX _,fun _ _ _=>rfl,fun _ h=>.inl h,fun _ _=>rfl⟩)
 cases hb:(co cs k).b with
 | none=>
  rw[hb]at hu
  obtain⟨_,h0,_,e⟩:=hu
  exact idle h0 (by simp[execOp,resolve,invoke,builtin,e,Builtin.clear_,run_underlying ht'])
 | some b=>
  rw[hb]at hu
  obtain⟨_,o',c,e,h1,h2,h3,_⟩:=hu
  rcases Nat.eq_zero_or_pos n with h0 | h0
  ·subst h0
   exact idle rfl (by simp[execOp,resolve,invoke,builtin,e,Builtin.clear_,run_underlying ht'])
  obtain rfl:=h3 (.inl h0)
  have hzl:((lX zz.cells.toList n).map tv).length=n*z:=by simp[Ao,hzs]
  obtain⟨W',c',hst,m1,m2⟩:=hR.over (us:=(lX zz.cells.toList n).map tv) (vs:=lX zz.cells.toList n) (o:=o') hk hb (pH _) (yR _) (DK hlo n) (by rw[hzl];exact hle)
  have hd:∃m,n=m+1:=⟨n-1,by omega⟩
  obtain⟨m,hm⟩:=hd
  have hrun:(execOp (Act.eval ⟨ts,[]⟩) ⟨none,.call ⟨.builtin .clear, #[a], #[t]⟩,ty,pos,af,gd⟩).run x.P W=.ok (.value (.tuple #[])) W':=by
   rw[<-IC (by omega),hm]at hst
   rw[hm]at e
   simp[execOp,resolve,invoke,builtin,e,Builtin.clear_,run_underlying ht',zeroValue,typeInfo,hi,hz,hst]
  unfold Oper.wp
  rw[hrun]
  exact kk _ _ _ _ _ ⟨rfl,rfl⟩ m1 (m2 none)
end
section
variable {x:Cx}{g:Nat->FV}{ob ob':List (Option Ob)}{Q:Post}{ops:Array Oper}{rest:List Oper}{d:Nat}{op:Op}{ty:TypeId}{pos:String}{af:Array Edge}{gd:Option (Nat×Bool)}{C:Prop}{v:FV}
theorem cl {fresh:Bool}{f:FuncId}{lent lent':List Lt}{args:List FV}{r:FV}{os:List Ob}{aa:Array Operand}{ats:Array TypeId}(key:Nat) (K:List Nat) (hS:aE fresh x.P f lent args (Rt lent' r)) (hf:CallOk x.P f) (hK:gX ob K K lent) (ha:tC x.n g K aa.toList args){ok:List (Option Ob)}(hbk:gB K lent' ok) (k:WL x ops rest (bG g d v) (cI ob K ok++os.map some) Q) (hw:bK ops x.n g gd=some true:=by rfl) (hk:eM ob key=true:=by rfl) (hnd:K.Nodup:=by decide) (hb:oU key r=some (v,os):=by rfl):
  WL x ops (⟨some d,.call ⟨.value (.func f),aa,ats⟩,ty,pos,af,gd⟩::rest) g ob Q:=by
 have e:fM []++args++fM []=args:=by simp[fM]
 refine gY (vJ (by rw[e];exact hS) hf (Oc f) hK hnd ha hk (by rintro _ _ ⟨rfl,rfl⟩ _;exact⟨by rw[hb];rfl,ok,hbk⟩)) hw ?_
 rintro _ _ ⟨l,r',v',os',ok',⟨rfl,rfl⟩,_,h,h9,rfl,rfl⟩
 obtain rfl:=tD hbk h9
 rw[hb]at h
 injection h with h
 injection h with h1 h2
 subst h1 h2
 exact k
theorem ce {fresh:Bool}{f:FuncId}{al:List FV}{fst caps:List Tr}{r:FV}{os:List Ob}{cf:Operand}{aa:Array Operand}{ats:Array TypeId}(key:Nat) (args:List FV) (hc:lk x.n g cf=.one (.t (.f f fst caps))) (hS:aE fresh x.P f [] al (aP r)) (hf:CallOk x.P f) (ha:tC x.n g [] aa.toList args) (k:WL x ops rest (bG g d v) (ob++os.map some) Q) (hw:bK ops x.n g gd=some true:=by rfl) (hk:eM ob key=true:=by rfl) (hb:oU key r=some (v,os):=by rfl) (he:fM fst++args++fM caps=al:=by rfl):
  WL x ops (⟨some d,.call ⟨.value cf,aa,ats⟩,ty,pos,af,gd⟩::rest) g ob Q:=by
 subst he
 refine gY (vJ hS hf (Xl hc) (K:=[]) rfl (by simp) ha hk (by rintro l _ rfl h0;obtain rfl:=List.eq_nil_of_length_eq_zero h0;exact⟨by rw[hb];rfl,[],rfl⟩)) hw ?_
 rintro _ _ ⟨l,r',v',os',ok',rfl,_,h,_,rfl,rfl⟩
 rw[hb]at h
 injection h with h
 injection h with h1 h2
 subst h1 h2
 simpa only[cI]using k
theorem nq {t e z by_ m:Nat}{zz:Value}{ti:Bool}{ts0:Nat}{z0:List Value}{a:Operand}{t2:TypeId}(k1:m=0->WL x ops rest (bG g d (.one (tv (.bool true)))) ob Q) (k2:WL x ops rest (bG g d (.one (tv (.bool false)))) ob Q) (hT:cH x.P ttab:=by exact aR) (ht:bX ttab t=some ⟨ti,ts0,z0,.sl e z by_ zz⟩:=by rfl) (ha:pA (lk x.n g a)=some m:=by rfl) (hw:bK ops x.n g gd=some true:=by rfl):
  WL x ops (⟨some d,.binOp .eql t a (.const (.slice none 0 0)) t2,ty,pos,af,gd⟩::rest) g ob Q:=
 gY (YF hT ht ha) hw (by
  rintro _ _ ⟨q,h,rfl,rfl⟩
  cases q with
  | true=>exact k1 (h rfl)
  | false=>exact k2)
theorem clear {t e z by_ ky o n t' z':Nat}{zz:Value}{ti:Bool}{ts0:Nat}{z0:List Value}{l l':List AV}{a:Operand}(hle:o+n*z<=l.length) (hl:eD l o ((lX zz.cells.toList n).map tv)=l') (k:WL x ops rest g (ob.set ky (some ⟨t',z',l'⟩)) Q) (hT:cH x.P ttab:=by exact aR) (ht:bX ttab t=some ⟨ti,ts0,z0,.sl e z by_ zz⟩:=by rfl) (ha:lk x.n g a=.one (.sl ky o n):=by rfl) (ho:cR ob ky=some ⟨t',z',l⟩:=by rfl) (hlo:dR (zz.cells.toList.map tv)=true:=by rfl) (hw:bK ops x.n g gd=some true:=by rfl):
  WL x ops (⟨none,.call ⟨.builtin .clear, #[a], #[t]⟩,ty,pos,af,gd⟩::rest) g ob Q:=
 gY (YG hT ht ha ho hle hlo) hw (by rintro _ _ ⟨rfl,rfl⟩;subst hl;exact k)
variable {late:Nat->Bool}{K fr:List Nat}{on:Bool}{fuel:Nat}{listed:Array Bool}
theorem iK {t:Nat}{ti:TI}{a:Operand}(i:Nat) (k:WD x ops Q late K (d::fr) true fuel (listed.setIfInBounds i true) (bG g d v) ob) (hT:cH x.P ttab:=by exact aR) (hi:ops[i]? =some ⟨some d,.load t a,ty,pos,af,gd⟩:=by rfl) (hw:bK ops x.n g gd=some true:=by rfl) (hti:bX ttab t=some ti:=by rfl) (h:yQ ob ti (lk x.n g a)=some (C,v):=by rfl):WO x ops Q late K fr true fuel listed i g ob:=
 Za (v:=v) i hi rfl hw (Nx hT hti h) (by rintro _ _ ⟨rfl,rfl⟩;exact⟨rfl,fun _ _=>rfl⟩) (by rintro _ _ ⟨rfl,rfl⟩;exact k)
theorem ocl {fresh:Bool}{f:FuncId}{lent lent':List Lt}{args:List FV}{r:FV}{os:List Ob}{aa:Array Operand}{ats:Array TypeId}(i key:Nat) (Kl:List Nat) (hi:ops[i]? =some ⟨some d,.call ⟨.value (.func f),aa,ats⟩,ty,pos,af,gd⟩) (hS:aE fresh x.P f lent args (Rt lent' r)) (hf:CallOk x.P f) (hK:gX ob Kl Kl lent) (ha:tC x.n g Kl aa.toList args){ok:List (Option Ob)}(hbk:gB Kl lent' ok) (hke:nO ob (cI ob Kl ok++os.map some) K) (k:WD x ops Q late K (d::fr) true fuel (listed.setIfInBounds i true) (bG g d v) (cI ob Kl ok++os.map some)) (hw:bK ops x.n g gd=some true:=by rfl) (hk:eM ob key=true:=by rfl) (hnd:Kl.Nodup:=by decide) (hdis:∀k∈K,k∉Kl:=by decide) (hb:oU key r=some (v,os):=by rfl):
  WO x ops Q late K fr true fuel listed i g ob:=by
 have e:fM []++args++fM []=args:=by simp[fM]
 refine LM i hi rfl hw (vJ (by rw[e];exact hS) hf (Oc f) hK hnd ha hk (by rintro _ _ ⟨rfl,rfl⟩ _;exact⟨by rw[hb];rfl,ok,hbk⟩)) hdis ?_ ?_
 ·rintro _ _ ⟨l,r',v',os',ok',⟨rfl,rfl⟩,_,h,h9,rfl,rfl⟩
  obtain rfl:=tD hbk h9
  rw[hb]at h
  injection h with h
  injection h with h1 h2
  subst h1 h2
  exact⟨⟨_,rfl⟩,lN hke⟩
 rintro _ _ ⟨l,r',v',os',ok',⟨rfl,rfl⟩,_,h,h9,rfl,rfl⟩
 obtain rfl:=tD hbk h9
 rw[hb]at h
 injection h with h
 injection h with h1 h2
 subst h1 h2
 exact k
theorem uI {fresh:Bool}{f:FuncId}{lent lent':List Lt}{args:List FV}{r:FV}{os:List Ob}{aa:Array Operand}{ats:Array TypeId}(i key:Nat) (Kl:List Nat) (hi:ops[i]? =some ⟨some d,.call ⟨.value (.func f),aa,ats⟩,ty,pos,af,gd⟩) (hS:aE fresh x.P f lent args (Rt lent' r)) (hf:CallOk x.P f) (hK:gX ob Kl Kl lent) (ha:tC x.n g Kl aa.toList args){ok:List (Option Ob)}(hbk:gB Kl lent' ok) (hke:nO ob (cI ob Kl ok++os.map some) K) (k:WD x ops Q late K (d::fr) true fuel (listed.setIfInBounds i true) (bG g d v) (cI ob Kl ok++os.map some)) (hr:Region.ready .any ops listed=[i]:=by kernel_rfl) (hw:bK ops x.n g gd=some true:=by rfl) (hk:eM ob key=true:=by rfl) (hnd:Kl.Nodup:=by decide) (hdis:∀k∈K,k∉Kl:=by decide) (hb:oU key r=some (v,os):=by rfl):
  WD x ops Q late K fr true (fuel+1) listed g ob:=
 WO.one hr (ocl i key Kl hi hS hf hK ha hbk hke k hw hk hnd hdis hb)
theorem AP {fresh:Bool}{f:FuncId}{al:List FV}{fst caps:List Tr}{r:FV}{cf:Operand}{aa:Array Operand}{ats:Array TypeId}(i key:Nat) (args:List FV) (hi:ops[i]? =some ⟨some d,.call ⟨.value cf,aa,ats⟩,ty,pos,af,gd⟩) (hc:lk x.n g cf=.one (.t (.f f fst caps))) (hS:aE fresh x.P f [] al (aP r)) (hf:CallOk x.P f) (ha:tC x.n g [] aa.toList args) (k:WD x ops Q late K (d::fr) true fuel (listed.setIfInBounds i true) (bG g d v) ob) (hr:Region.ready .any ops listed=[i]:=by kernel_rfl) (hw:bK ops x.n g gd=some true:=by rfl) (hk:eM ob key=true:=by rfl) (hb:oU key r=some (v,[]):=by rfl) (he:fM fst++args++fM caps=al:=by rfl):
  WD x ops Q late K fr true (fuel+1) listed g ob:=by
 subst he
 refine Zc i hr hi rfl hw (vJ hS hf (Xl hc) (K:=[]) rfl (by simp) ha hk (by rintro l _ rfl h0;obtain rfl:=List.eq_nil_of_length_eq_zero h0;exact⟨by rw[hb];rfl,[],rfl⟩)) (by simp) ?_ ?_
 ·rintro _ _ ⟨l,r',v',os',ok',rfl,_,h,_,rfl,rfl⟩
  rw[hb]at h
  injection h with h
  injection h with h1 h2
  subst h1 h2
  simp only[List.map_nil,List.append_nil,cI]
  exact⟨⟨_,rfl⟩,fun _ _=>by trivial⟩
 rintro _ _ ⟨l,r',v',os',ok',rfl,_,h,_,rfl,rfl⟩
 rw[hb]at h
 injection h with h
 injection h with h1 h2
 subst h1 h2
 simpa only[List.map_nil,List.append_nil,cI]using k
theorem JU {m:Nat}(h0:x.c0.length=m) (τ:List Nat) (live:List (Nat×FV)) (os:List Ob) (hn:τ.Nodup) (ht:τ.take m=List.range m) (h1:vT τ g live) (h2:kA τ ob τ os):Sub x g ob (bP live) (os.map some):=
 su τ (fun k hk=>by
  rw[h0]at hk
  have h3:=congrArg (·[k]?) ht
  simpa[List.getElem?_take,hk]using h3) live os hn h1 h2
theorem aCY {i k:Nat}{a0:AV}{y:Tr}{o:Ob}{fv fv':FV}(hi:Nat.blt i x.n=true) (hg:g i=fv) (ho:cR ob k=some o) (hf:FzF a0 y fv fv') (key:Yx x g ob k o a0 y) (hfr:fr.any (Nat.beq i)=true) (hK:K.contains k=false) (kk:WD x ops Q late K fr on fuel listed (bG g i fv') (ob.set k none)):WD x ops Q late K fr on fuel listed g ob:=fun Kp W1 cs ts W hR h1 h2 h3=>by
 obtain⟨m1,m2⟩:=Qu hi hg ho hf hR (key _ _ _ hR)
 have hne:∀k'∈K,k≠k':=fun k' hk' e=>by
  subst e
  have:K.contains k=true:=by simpa using hk'
  rw[hK]at this
  cases this
 refine kk Kp W1 cs ts W m1 h1 h2 fun hon=>?_
 have hk:=h3 hon
 refine⟨hk.same,fun b hb=>?_,fun k' hk' o' ho'=>?_,fun j hj=>?_⟩
 ·rcases hk.free b hb with h4 | ⟨k2,hk2,o2,ho2,hb2⟩
  ·refine .inl fun hm=>h4 ?_
   have e:=uY (r':=aQ none (co cs k)) (cA hR.len (dL ho)) b
   have e1:(aL ob cs).set k (aQ none (co cs k))=aL (ob.set k none) cs:=by
    have h5:=mZ (ob:=ob) (cs:=cs) (k:=k) (o:=none) (c:=co cs k)
    rw[uZ (by have:=(List.getElem?_eq_some_iff.1 (dL ho)).1;have:=hR.len;omega)]at h5
    exact h5.symm
   have e2:(aQ none (co cs k)).S=[]:=by cases hb:(co cs k).b <;> simp[aQ]
   rw[e1,e2,List.count_nil]at e
   have h6:=List.count_pos_iff.2 hm
   unfold dO at h6⊢
   exact List.count_pos_iff.1 (by omega)
  exact .inr ⟨k2,hk2,o2,by rw[List.getElem?_set_ne (hne k2 hk2)];exact ho2,hb2⟩
 ·rw[List.getElem?_set_ne (hne k' hk')]at ho'
  obtain⟨q1,q2⟩:=hk.ks k' hk' o' ho'
  exact⟨q1,dI (fun _ _=>rfl) (fun b hb=>⟨m2 b hb.1,hb.2⟩) .refl _ _ q2⟩
 obtain⟨u,q1,q2⟩:=hk.fv j hj
 refine⟨u,q1,?_⟩
 unfold qY at q2⊢
 cases hq:fr.any (Nat.beq j)with
 | true=>simp[bV,cE]
 | false=>
  rw[hq]at q2
  have hji:Nat.beq j i=false:=by
   cases hb:Nat.beq j i
   ·rfl
   rw[Nat.eq_of_beq_eq_true hb]at hq
   rw[hq]at hfr
   cases hfr
  simp only[cond_false,bG,hji]at q2⊢
  exact gC (fun _ _=>rfl) (fun b hb=>⟨m2 b hb.1,hb.2⟩) .refl _ _ q2
theorem wJ {i k t z n t':Nat}{l:List Tr}{fv fv':FV}(hi:Nat.blt i x.n=true) (hg:g i=fv) (ho:cR ob k=some ⟨t,z,l.map .t⟩) (hz:l.length=n*z) (hf:FzF (.sl k 0 n) (.s false t' z n l) fv fv') (hfr:fr.any (Nat.beq i)=true) (hK:K.contains k=false) (kk:WD x ops Q late K fr on fuel listed (bG g i fv') (ob.set k none)):WD x ops Q late K fr on fuel listed g ob:=aCY hi hg ho hf (Oz t' ho hz) hfr hK kk
end
theorem uJ {x:Cx}{g:Nat->FV}{ob:List (Option Ob)}{live:List (Nat×FV)}{os:List Ob}{m:Nat}(h0:x.c0.length=m) (τ:List Nat) (h2:kA τ ob τ os) (hn:τ.Nodup:=by decide) (ht:τ.take m=List.range m:=by rfl) (h1:vT τ g live:=by repeat' first | exact trivial | refine⟨rfl,?_⟩):Sub x g ob (bP live) (os.map some):=JU h0 τ live os hn ht h1 h2
end Go.Proofs.YtimiaildfkimfaaGreatDoor
namespace Go.Proofs.YtimiaildfkimfaaGreatDoor
open Go Go.ChangeShapes Go.WideShapes Go.ChangeAt Go.RowKit
def Lz (w:World) (b:Nat):Prop:=b<w.heap.size
theorem ID {P:Program}{f:FuncId}{args:List FV}{b:Bool}{us:List Value}{W:World}(h:aE true P f [] args (aP (.one (tv (.bool b))))) (ha:dM W (Lz W) [] args us):Calls P f us.toArray W (fun e W'=>e=.returned (.bool b)/\Below W.heap.size W W'):=by
 have h1:=h (Lz W) W [] us ⟨Chg.refl _ _,by simp[bR,aL],by simp[bR,aL],by simp[bR,aL],fun q hq=>by
  simp at hq
  subst hq
  refine⟨⟨rfl,fun k o hk=>by simp[bR]at hk⟩,?_⟩
  exact nR (fun _ _=>rfl) (fun b hb=>⟨⟨hb,by simp[bR,aL]⟩,hb⟩) .refl _ _ ha⟩
 refine h1.mono fun e W' hE=>?_
 obtain⟨v,lent',cs',r,ys,rfl,⟨_,rfl⟩,hl,_,hcl,_,hL⟩:=hE
 obtain rfl:lent'=[]:=List.eq_nil_of_length_eq_zero hl
 obtain rfl:cs'=[]:=List.eq_nil_of_length_eq_zero hcl
 refine⟨?_,⟨hL.chg.os,hL.chg.tape,hL.chg.output,hL.chg.size,fun k hk=>hL.chg.block k hk (by simp[bR,aL])⟩⟩
 have h2:=(Sh.off (hL.sh 0 rfl)).2
 obtain⟨z,rfl,rfl,h3⟩:=h2
 simp only[tv,CR,OR]at h3
 subst h3
 rfl
end Go.Proofs.YtimiaildfkimfaaGreatDoor
namespace Go.Proofs.YtimiaildfkimfaaGreatDoor
open Go Go.Shelf
def laysL_ren:Go.Shelf.Ren:=⟨fun | 119=>210 | 137=>89 | 151=>93 | 152=>163 | 156=>32 | 165=>72 | 166=>73 | 169=>22 | 217=>158 | 224=>211 | 225=>212 | 240=>130 | 241=>131 | 266=>207 | 276=>188 | 277=>189 | 315=>209 | n=>n,fun | 0=>0 | 3=>3 | 4=>4 | 5=>5 | 9=>9 | 20=>20 | 21=>21 | 31=>29 | 37=>89 | 40=>193 | 46=>245 | 70=>88 | 72=>91 | 75=>173 | 76=>174 | 80=>98 | 127=>154 | 164=>275 | n=>n,fun | n=>n⟩
theorem Gj:Go.Proofs.Lays.n156 Tryz.prog laysL_ren:={
 mixed:=by kernel_rfl
 f156:=Tryz.func32.trans (congrArg some (by kernel_rfl))
 f165:=Tryz.func72.trans (congrArg some (by kernel_rfl))
 f166:=Tryz.func73.trans (congrArg some (by kernel_rfl))
 f169:=Tryz.func22.trans (congrArg some (by kernel_rfl))
 f240:=Tryz.func130.trans (congrArg some (by kernel_rfl))
 f241:=Tryz.func131.trans (congrArg some (by kernel_rfl))
 f276:=Tryz.func188.trans (congrArg some (by kernel_rfl))
 f277:=Tryz.func189.trans (congrArg some (by kernel_rfl))
 t0:=Tryz.underlying0
 a0:=Tryz.isAgg0
 z0:=Tryz.sizeOf0
 v0:=Tryz.zeroValue0
 t3:=Tryz.underlying3
 a3:=Tryz.isAgg3
 z3:=Tryz.sizeOf3
 v3:=Tryz.zeroValue3
 t4:=Tryz.underlying4
 a4:=Tryz.isAgg4
 z4:=Tryz.sizeOf4
 v4:=Tryz.zeroValue4
 t9:=Tryz.underlying9
 a9:=Tryz.isAgg9
 z9:=Tryz.sizeOf9
 v9:=Tryz.zeroValue9
 t20:=Tryz.underlying20
 a20:=Tryz.isAgg20
 z20:=Tryz.sizeOf20
 v20:=Tryz.zeroValue20
 t31:=Tryz.underlying29
 a31:=Tryz.isAgg29
 z31:=Tryz.sizeOf29
 v31:=Tryz.zeroValue29
 t37:=Tryz.underlying89
 a37:=Tryz.isAgg89
 z37:=Tryz.sizeOf89
 v37:=Tryz.zeroValue89
 t70:=Tryz.underlying88
 a70:=Tryz.isAgg88
 z70:=Tryz.sizeOf88
 v70:=Tryz.zeroValue88
 t72:=Tryz.underlying91
 a72:=Tryz.isAgg91
 z72:=Tryz.sizeOf91
 v72:=Tryz.zeroValue91
 t75:=Tryz.underlying173
 a75:=Tryz.isAgg173
 z75:=Tryz.sizeOf173
 v75:=Tryz.zeroValue173
 t76:=Tryz.underlying174
 a76:=Tryz.isAgg174
 z76:=Tryz.sizeOf174
 v76:=Tryz.zeroValue174
 t127:=Tryz.underlying154
 a127:=Tryz.isAgg154
 z127:=Tryz.sizeOf154
 v127:=Tryz.zeroValue154
 t164:=Tryz.underlying275
 a164:=Tryz.isAgg275
 z164:=Tryz.sizeOf275
 v164:=Tryz.zeroValue275}
theorem Gk:Go.Proofs.Lays.n151 Tryz.prog laysL_ren:={Gj with
 f119:=Tryz.func210.trans (congrArg some (by kernel_rfl))
 f137:=Tryz.func89.trans (congrArg some (by kernel_rfl))
 f151:=Tryz.func93.trans (congrArg some (by kernel_rfl))
 f152:=Tryz.func163.trans (congrArg some (by kernel_rfl))
 f217:=Tryz.func158.trans (congrArg some (by kernel_rfl))
 f224:=Tryz.func211.trans (congrArg some (by kernel_rfl))
 f225:=Tryz.func212.trans (congrArg some (by kernel_rfl))
 f266:=Tryz.func207.trans (congrArg some (by kernel_rfl))
 t5:=Tryz.underlying5
 a5:=Tryz.isAgg5
 z5:=Tryz.sizeOf5
 v5:=Tryz.zeroValue5
 t21:=Tryz.underlying21
 a21:=Tryz.isAgg21
 z21:=Tryz.sizeOf21
 v21:=Tryz.zeroValue21
 t46:=Tryz.underlying245
 a46:=Tryz.isAgg245
 z46:=Tryz.sizeOf245
 v46:=Tryz.zeroValue245}
theorem IE:Go.Proofs.Lays.n137 Tryz.prog laysL_ren:={Gk with
}
theorem IF:Go.Proofs.Lays.n315 Tryz.prog laysL_ren:={Gk with
 f315:=Tryz.func209.trans (congrArg some (by kernel_rfl))
 t40:=Tryz.underlying193
 a40:=Tryz.isAgg193
 z40:=Tryz.sizeOf193
 v40:=Tryz.zeroValue193}
theorem We:Go.Proofs.Builder.Extra Tryz.prog laysL_ren where
 sizeBuilder:=by kernel_rfl
 liesBuilder:=by kernel_rfl
 t5:=Tryz.underlying5
 a5:=Tryz.isAgg5
 z5:=Tryz.sizeOf5
 v5:=Tryz.zeroValue5
 infoByte:=by kernel_rfl
 cellsByte:=by kernel_rfl
 sizeByte:=by kernel_rfl
 neB5:=by decide
end Go.Proofs.YtimiaildfkimfaaGreatDoor
namespace Go.Proofs.YtimiaildfkimfaaGreatDoor
open Go Go.RowKit
def Rp (x y c:Int):Int:=if x<y+c then 1 else 0
theorem DL (a b d:Nat):
  (((4294967295^^^a)&&& b)||| ((4294967295^^^(a^^^b))&&& d))/2147483648=
   (((1^^^(a/2147483648))&&&(b/2147483648))||| ((1^^^((a/2147483648)^^^(b/2147483648)))&&&(d/2147483648))):=by
 have e:∀v:Nat,v/2147483648=v>>>31:=fun v=>by rw[Nat.shiftRight_eq_div_pow]
 simp only[e,Nat.shiftRight_or_distrib,Nat.shiftRight_and_distrib,Nat.shiftRight_xor_distrib]
 rfl
theorem Rq (v:Nat) (h:v<4294967296):v/2147483648=0\/v/2147483648=1:=by omega
theorem YH (x y c:Int) (x0:0<=x) (x1:x<4294967296) (y0:0<=y) (y1:y<4294967296) (c0:0<=c) (c1:c<=1):
  bits BinOp.or IntKind.u32 (bits BinOp.and IntKind.u32 (bits BinOp.xor IntKind.u32 IntKind.u32.max x) y)
   (bits BinOp.and IntKind.u32 (bits BinOp.xor IntKind.u32 IntKind.u32.max (bits BinOp.xor IntKind.u32 x y)) ((x-y-c)%4294967296))/2147483648=Rp x y c:=by
 obtain⟨a,rfl⟩:=Int.eq_ofNat_of_zero_le x0
 obtain⟨b,rfl⟩:=Int.eq_ofNat_of_zero_le y0
 have hdn:0<=((a:Int)-b-c)%4294967296:=by omega
 obtain⟨d,hd⟩:=Int.eq_ofNat_of_zero_le hdn
 rw[hd]
 have em:IntKind.u32.max=((4294967295:Nat):Int):=rfl
 have ha:a<4294967296:=by omega
 have hb:b<4294967296:=by omega
 have hd':d<4294967296:=by omega
 have x1:a^^^b<4294967296:=Nat.xor_lt_two_pow (n:=32) ha hb
 have x2:4294967295^^^a<4294967296:=Nat.xor_lt_two_pow (n:=32) (by omega) ha
 have x3:4294967295^^^(a^^^b)<4294967296:=Nat.xor_lt_two_pow (n:=32) (by omega) x1
 have x4:(4294967295^^^a)&&& b<4294967296:=Nat.and_lt_two_pow (n:=32) _ hb
 have x5:(4294967295^^^(a^^^b))&&& d<4294967296:=Nat.and_lt_two_pow (n:=32) _ hd'
 rw[em,u32_xor_nat _ _ (by omega) ha,u32_xor_nat _ _ ha hb,u32_xor_nat _ _ (by omega) x1,u32_and_nat _ _ x2 hb,u32_and_nat _ _ x3 hd',u32_or_nat _ _ x4 x5]
 have hs:=DL a b d
 have hh:((((4294967295^^^a)&&& b)||| ((4294967295^^^(a^^^b))&&& d):Nat):Int)/2147483648=(((((4294967295^^^a)&&& b)||| ((4294967295^^^(a^^^b))&&& d))/2147483648:Nat):Int):=rfl
 rw[hh,hs]
 unfold Rp
 rcases Rq a ha with ta | ta <;> rcases Rq b hb with tb | tb <;> rcases Rq d hd' with td | td <;> rw[ta,tb,td] <;> split <;> first | rfl | (exfalso;omega)
theorem DM (x:Int) (w:World):Calls Tryz.prog 246 #[.int .i64 x] w fun e w'=>e=.returned (.bool false)/\w=w':=by
 go_enter Tryz.func246,Tryz.ntmps246
 go_wp2
 go_ret
 simp
theorem DN (x:Int) (w:World):Calls Tryz.prog 247 #[.int .u32 x] w fun e w'=>e=.returned (.bool false)/\w=w':=by
 go_enter Tryz.func247,Tryz.ntmps247
 go_wp2
 go_ret
 simp
def uA (x y:Int):Int:=if x<y then-1 else if y<x then 1 else 0
theorem Tg (x y:Int) (w:World):Calls Tryz.prog 240 #[.int .i64 x,.int .i64 y] w fun e w'=>e=.returned (.int .i64 (uA x y))/\w=w':=by
 go_enter Tryz.func240,Tryz.ntmps240
 go_wp2_with (first
  | (go_at_call 246;refine(DM _ _).mono ?_;rintro e w' ⟨rfl,rfl⟩))
 all_goals (go_ret;refine⟨xQ ?_,rfl⟩;show _=uA x y;unfold uA;(repeat' split) <;> first | rfl | omega)
theorem Th (x y:Int) (w:World):Calls Tryz.prog 241 #[.int .u32 x,.int .u32 y] w fun e w'=>e=.returned (.int .i64 (uA x y))/\w=w':=by
 go_enter Tryz.func241,Tryz.ntmps241
 go_wp2_with (first
  | (go_at_call 247;refine(DN _ _).mono ?_;rintro e w' ⟨rfl,rfl⟩))
 all_goals (go_ret;refine⟨xQ ?_,rfl⟩;show _=uA x y;unfold uA;(repeat' split) <;> first | rfl | omega)
theorem rB (x y c:Int) (w:World) (x0:0<=x) (x1:x<4294967296) (y0:0<=y) (y1:y<4294967296) (c0:0<=c) (c1:c<4294967296):
  Calls Tryz.prog 237 #[.int .u32 x,.int .u32 y,.int .u32 c] w fun e w'=>e=.returned (.tuple #[.int .u32 ((x+y+c)%4294967296),.int .u32 ((x+y+c)/4294967296)])/\w=w':=by
 go_enter Tryz.func237,Tryz.ntmps237
 go_wp2
 go_ret2
 exact⟨rfl,rfl⟩
theorem Rr (x y:Int) (x0:0<=x) (x1:x<4294967296) (y0:0<=y) (y1:y<4294967296):0<=x*y/\x*y<=18446744065119617025:=by
 refine⟨Int.mul_nonneg x0 y0,?_⟩
 have:=Int.mul_le_mul (show x<=4294967295 by omega) (show y<=4294967295 by omega) y0 (by omega)
 omega
theorem Zd (x y:Int) (w:World) (x0:0<=x) (x1:x<4294967296) (y0:0<=y) (y1:y<4294967296):
  Calls Tryz.prog 204 #[.int .u32 x,.int .u32 y] w fun e w'=>e=.returned (.tuple #[.int .u32 (x*y/4294967296),.int .u32 (x*y%4294967296)])/\w=w':=by
 obtain⟨p0,p1⟩:=Rr x y x0 x1 y0 y1
 go_enter Tryz.func204,Tryz.ntmps204
 go_wp2
 go_ret2
 exact⟨rfl,rfl⟩
theorem Ze (x y c:Int) (w:World) (x0:0<=x) (x1:x<4294967296) (y0:0<=y) (y1:y<4294967296) (c0:0<=c) (c1:c<=1):
  Calls Tryz.prog 238 #[.int .u32 x,.int .u32 y,.int .u32 c] w fun e w'=>e=.returned (.tuple #[.int .u32 ((x-y-c)%4294967296),.int .u32 (Rp x y c)])/\w=w':=by
 have hb:=Lib.hid (YH x y c x0 x1 y0 y1 c0 c1)
 go_enter Tryz.func238,Tryz.ntmps238
 go_wp2
 go_ret2
 rw[<-hb.out]
 exact⟨rfl,rfl⟩
theorem DO (h l:Int) (h0:0<=h) (h1:h<4294967296) (l0:0<=l) (l1:l<4294967296):
  bits BinOp.or IntKind.u64 (h*4294967296) l=h*4294967296+l:=by
 obtain⟨a,rfl⟩:=Int.eq_ofNat_of_zero_le h0
 obtain⟨b,rfl⟩:=Int.eq_ofNat_of_zero_le l0
 have e:((a:Int)*4294967296)=((a*4294967296:Nat):Int):=by omega
 have e2:a*4294967296 ||| b=a*4294967296+b:=by
  have:=Nat.two_pow_add_eq_or_of_lt (i:=32) (b:=b) (by omega) a
  rw[Nat.mul_comm]at this
  simpa using this.symm
 rw[e,bits_or_u64_nat _ _ (by omega) (by omega),e2]
 omega
theorem YI (h l d:Int) (h0:0<=h) (hd:h<d) (l0:0<=l) (l1:l<4294967296):
  0<=(h*4294967296+l)/d/\(h*4294967296+l)/d<4294967296/\0<=(h*4294967296+l)%d/\(h*4294967296+l)%d<d:=by
 have hp:0<d:=by omega
 refine⟨Int.ediv_nonneg (by omega) (by omega),Int.ediv_lt_of_lt_mul hp ?_,Int.emod_nonneg _ (by omega),Int.emod_lt_of_pos _ hp⟩
 have:(h+1)*4294967296<=d*4294967296:=Int.mul_le_mul_of_nonneg_right (by omega) (by omega)
 rw[Int.mul_comm 4294967296 d]
 omega
theorem Zf (h l d:Int) (w:World) (h0:0<=h) (hd:h<d) (l0:0<=l) (l1:l<4294967296) (d1:d<4294967296):
  Calls Tryz.prog 203 #[.int .u32 h,.int .u32 l,.int .u32 d] w fun e w'=>
   e=.returned (.tuple #[.int .u32 ((h*4294967296+l)/d),.int .u32 ((h*4294967296+l)%d)])/\∃n,w'=w.drewN n:=by
 have hne:(d != 0)=true:=by rw[bne_iff_ne];omega
 have hne2:¬d=0:=by omega
 have hle:decide (d<=h)=false:=by simp;omega
 have hor:=DO h l h0 (by omega) l0 l1
 obtain⟨q0,q1,r0,r1⟩:=YI h l d h0 hd l0 l1
 go_enter Tryz.func203,Tryz.ntmps203
 go_wp2
 go_quiet (fail)
 go_wp2
 go_ret2
 exact⟨rfl,_,rfl⟩
def lenOf:Value->Nat | .slice _ n _=>n | _=>0
set_option maxHeartbeats 400000 in
theorem kW (A:Option Addr) (n c:Nat) (xs:List Nat) (B:Nat) (w:World) (h:U32 w B A n c xs):
  Calls Tryz.prog 202 #[.slice A n c] w fun e w'=>e=.returned (.slice A (trim xs).length c)/\w=w':=by
 have hbig:=h.big
 have hcap:=h.cap
 go_enter Tryz.func202,Tryz.ntmps202
 go_wp2
 go_loop [0] (fun a=>∃k:Nat,k<=n/\a=.slice A k c/\Hid (trim (xs.take k)=trim xs)) (fun a=>lenOf a)
 case atStart=>exact⟨n,aX _,rfl,by have:=h.len;rw[cT (by omega)];exact rfl⟩
 case round=>
  obtain⟨k,hk,rfl,ht⟩:=hrel
  by_cases h0:0<k
  ·obtain⟨b,o,sp,rfl,hb,hc⟩:=h.at_ (show k-1<n by omega)
   go_wp2
   ·have h1:((nth xs (k-1):Nat):Int)==0:=by assumption
    have hx:nth xs (k-1)=0:=by simpa using h1
    exact⟨⟨k-1,by omega,rfl,by rw[Bi (by omega) (by rw[h.len];omega) hx];exact ht.out⟩,by simp only[lenOf];omega⟩
   have h1:(((nth xs (k-1):Nat):Int)==0)=false:=by assumption
   have hx:nth xs (k-1)≠0:=by simpa using h1
   go_ret
   exact⟨Lb (by rw[<-ht.out,wB (by omega) (by rw[h.len];omega) hx,dU,h.len,Nat.min_eq_left hk]),rfl⟩
  go_wp2
  obtain rfl:k=0:=by omega
  go_ret
  exact⟨Lb (by rw[<-ht.out];rfl),rfl⟩
theorem Mo (w:World) (e:TypeId):(w.alloc (.cells #[] e)).ownsRow w.heap.size e 1 (.slice (some ⟨w.heap.size,0,none⟩) 0 0) 0 []:=
 ⟨rfl,.inr ⟨w.heap.size,0, #[],rfl,aX _,heap_alloc_new w _,aX _,by unfold maxLen;omega,rfl,rfl⟩⟩
theorem tU (w:World) (o:Obj):Below w.heap.size w (w.alloc o):=(Below.refl _ _).alloc (aX _) _
theorem vV:IsEl Tryz.prog 23 223 (.int .u32 0) 1 4:=IsEl.mk Tryz.underlying23 (z:=.int .u32 0) (by kernel_rfl) rfl (by omega)
def rC (xs:List Nat) (w:World) (e:Ending) (w':World):Prop:=
 ∃A n c,e=.returned (.slice A n c)/\Own 223 w' w.heap.size A n c xs/\Below w.heap.size w w'
set_option maxHeartbeats 400000 in
theorem vB (A:Option Addr) (n c:Nat) (xs:List Nat) (w:World) (h:U32 w w.heap.size A n c xs) (hn:n<=1099511627776):
    Calls Tryz.prog 201 #[.slice A n c] w (rC xs w):=by
  have q:∀(w:World) (a:Option Addr) (n c n' c':Nat),(binOp .eql 23 (.slice a n c) (.slice none n' c')).run Tryz.prog w=.ok (.bool a.isNone) w:=
    fun w a n c n' c'=>Lib.run_eql_slice_nil w _ _ a n c n' c' Tryz.underlying23
  rcases A with _ | ad
  · have h0:n=0:=by
      rcases Nat.eq_zero_or_pos n with h0 | h0
      · exact h0
      obtain⟨ad,e,_⟩:=h.rd.cell h0
      cases e
    subst h0
    have hx:xs=[]:=List.eq_nil_of_length_eq_zero h.len
    subst hx
    go_enter Tryz.func201,Tryz.ntmps201
    go_wp2
    go_ret
    exact⟨none,0,0,rfl,Own.nil,Below.refl _ _⟩
  go_enter Tryz.func201,Tryz.ntmps201
  go_wp2_with (first
    | (at_builtin
       refine uK _ vV rfl (.tmp 5) (.tmp 6) rfl w.heap.size (.slice (some ⟨w.heap.size,0,none⟩) 0 0) 0 [] rfl (Mo _ _) w.heap.size (some ad) n c (iV xs) rfl (h.rd.below (tU w _)) (Df xs) (by omega) (by omega) (by simp) ?_
       intro A' c' w1 hown hg _))
  go_ret
  refine⟨A',n,c',rfl,⟨by simpa using hown,h.lim⟩,wC (tU w _) (Mo _ _) hg (by simp) (aX _)⟩
set_option maxHeartbeats 400000 in
theorem gU (A:Option Addr) (n c:Nat) (xs:List Nat) (w:World) (h:U32 w w.heap.size A n c xs) (hn:n<=1099511627776):
  Calls Tryz.prog 149 #[.slice A n c] w (rC (trim xs) w):=by
 have hl:=dH xs
 have hlen:=Lib.hid h.len
 go_enter Tryz.func149,Tryz.ntmps149
 go_wp2_with (first
  | (go_at_call 202;refine(kW _ _ _ xs _ _ h).mono ?_;rintro e w' ⟨rfl,rfl⟩)
  | (go_at_call 201;refine(vB _ _ _ (trim xs) _ h.trim ?_).mono ?_;(rw[hlen.out]at hl;omega);rintro e w1 ⟨A1,n1,c1,rfl,h1,hb1⟩))
 go_ret
 exact⟨A1,n1,c1,rfl,h1,hb1⟩
theorem DP {P:Program}{f:FuncId}{args:Array Value}{w:World}{a n:Nat}{v:Value}
  (h:Calls P f args (w.drewN (a+n)) fun e w'=>e=.returned v/\w.drewN (a+n)=w'):
  Calls P f args (w.drewN (a+n)) fun e w''=>e=.returned v/\∃m,w''=w.drewN (a+m):=
 h.mono fun _ _ ⟨he,hm⟩=>⟨he,n,hm.symm⟩
theorem YJ (w:World) (a b c:Nat):∃k,((w.drewN a).drewN b).drewN c=w.drewN k:=⟨_,by rw[World.drewN_drewN,World.drewN_drewN]⟩
theorem fA (A:Option Addr) (n c n':Nat) (xs:List Nat) (B:Nat) (w:World) (h:U32 w B A n c xs) (hn:(trim xs).length=n'):
  Calls Tryz.prog 202 #[.slice A n c] w fun e w'=>e=.returned (.slice A n' c)/\w=w':=by
 subst hn;exact kW A n c xs B w h
def sK (x y:Nat):Int:=uA (x:Int) (y:Int)
theorem vC {x y:Nat}(h:x<y):sK x y=-1:=by unfold sK uA;rw[if_pos (by omega)]
theorem qK {x y:Nat}(h:y<x):sK x y=1:=by unfold sK uA;rw[if_neg (by omega),if_pos (by omega)]
theorem yX {x y:Nat}(h:x=y):sK x y=0:=by unfold sK uA;rw[if_neg (by omega),if_neg (by omega)]
theorem Ti {xs ys:List Nat}(hx:Lim 4294967296 xs) (hy:Lim 4294967296 ys) (h:(trim xs).length≠(trim ys).length):
  uA ((trim xs).length:Int) ((trim ys).length:Int)=sK (vl 4294967296 xs) (vl 4294967296 ys):=by
 rcases Nat.lt_or_gt_of_ne h with h | h
 ·have:=lK (B:=4294967296) (by omega) hx.trim (sX ys) h
  rw[eF,eF]at this
  rw[vC this];exact vC h
 have:=lK (B:=4294967296) (by omega) hy.trim (sX xs) h
 rw[eF,eF]at this
 rw[qK this];exact qK h
theorem PN {xs ys:List Nat}{k:Nat}(hx:Lim 4294967296 xs) (hy:Lim 4294967296 ys) (hl:xs.length=ys.length) (h0:0<k) (hk:k<=xs.length)
  (hd:xs.drop k=ys.drop k) (h:nth xs (k-1)≠nth ys (k-1)):uA (nth xs (k-1):Int) (nth ys (k-1):Int)=sK (vl 4294967296 xs) (vl 4294967296 ys):=by
 have e:k-1+1=k:=by omega
 rcases Nat.lt_or_gt_of_ne h with h | h
 ·have:=Og (B:=4294967296) (k:=k-1) hx hl (by omega) (by rw[e];exact hd) (by rwa[dT (by omega),dT (by omega)]at h)
  rw[vC this];exact vC h
 have:=Og (B:=4294967296) (k:=k-1) hy hl.symm (by omega) (by rw[e];exact hd.symm) (by rwa[dT (by omega),dT (by omega)]at h)
 rw[qK this];exact qK h
theorem DQ {xs ys:List Nat}{k:Nat}(hl:xs.length=ys.length) (h0:0<k) (hk:k<=xs.length) (hd:xs.drop k=ys.drop k) (h:nth xs (k-1)=nth ys (k-1)):
  xs.drop (k-1)=ys.drop (k-1):=by
 have e:k-1+1=k:=by omega
 rw[List.drop_eq_getElem_cons (show k-1<xs.length by omega),List.drop_eq_getElem_cons (show k-1<ys.length by omega),e,hd,<-dT,<-dT,h]
set_option maxHeartbeats 800000 in
theorem vW (A B:Option Addr) (n m c d:Nat) (xs ys:List Nat) (bd:Nat) (w:World) (ha:U32 w bd A n c xs) (hb:U32 w bd B m d ys):
  Calls Tryz.prog 232 #[.slice A n c,.slice B m d] w fun e w'=>e=.returned (.int .i64 (sK (vl 4294967296 xs) (vl 4294967296 ys)))/\∃k,w'=w.drewN k:=by
 have ha1:=ha.trim
 have hb1:=hb.trim
 have hab:=ha.big
 have hbb:=hb.big
 have hac:=ha1.cap
 have hbc:=hb1.cap
 obtain⟨n1,hn1⟩:∃n1,(trim xs).length=n1:=⟨_,rfl⟩
 obtain⟨m1,hm1⟩:∃m1,(trim ys).length=m1:=⟨_,rfl⟩
 rw[hn1]at ha1 hac
 rw[hm1]at hb1 hbc
 have Hn1:=Lib.hid hn1
 have Hm1:=Lib.hid hm1
 clear hn1 hm1
 by_cases hne:n1=m1
 ·subst hne
  have hq:((n1:Int)!=(n1:Int))=false:=by simp
  go_enter Tryz.func232,Tryz.ntmps232
  go_wp2_with fail
  refine(fA _ _ _ n1 xs _ _ ha Hn1.out).mono ?_
  rintro e w' ⟨rfl,rfl⟩
  go_wp2_with fail
  refine(fA _ _ _ n1 ys _ _ hb Hm1.out).mono ?_
  rintro e w' ⟨rfl,rfl⟩
  go_wp2_with fail
  go_loopw [5] (fun i wr=>∃k:Nat,k<=n1/\i=.int .i64 ((k:Int)-1)/\Hid ((trim xs).drop k=(trim ys).drop k)/\∃q,wr=w.drewN q) (fun i _=>(intOf i+1).toNat)
  case atStart=>exact⟨n1,aX _,rfl,by rw[List.drop_eq_nil_of_le (by rw[Hn1.out];exact aX _),List.drop_eq_nil_of_le (by rw[Hm1.out];exact aX _)];exact rfl,0,rfl⟩
  case round=>
   obtain⟨k,hk,rfl,ht,q,rfl⟩:=hrel
   by_cases h0:0<k
   ·obtain⟨b,o,sp,rfl,hb',hc'⟩:=ha1.at_ (show k-1<n1 by omega)
    obtain⟨b2,o2,sp2,rfl,hb2',hc2'⟩:=hb1.at_ (show k-1<n1 by omega)
    by_cases he:nth (trim xs) (k-1)=nth (trim ys) (k-1)
    ·have he1:(((nth (trim xs) (k-1):Nat):Int)!=((nth (trim ys) (k-1):Nat):Int))=false:=by rw[he];simp
     have He:=Lib.hid he
     clear he
     go_wp2_with fail
     go_quiet (fail)
     go_wp2_with fail
     exact⟨⟨k-1,by omega,by go_num,DQ (by rw[Hn1.out,Hm1.out]) h0 (by rw[Hn1.out];exact hk) ht.out He.out,_,rfl⟩,by simp[intOf];omega⟩
    have he1:(((nth (trim xs) (k-1):Nat):Int)!=((nth (trim ys) (k-1):Nat):Int))=true:=by rw[bne_iff_ne];omega
    have He:=Lib.hid he
    clear he
    go_wp2_with fail
    go_quiet (fail)
    go_wp2_with fail
    go_quiet ((go_at_call 241;exact DP (Th _ _ _)))
    go_wp2_with fail
    go_ret
    exact⟨xQ (by rw[PN ha1.lim hb1.lim (by rw[Hn1.out,Hm1.out]) h0 (by rw[Hn1.out];exact hk) ht.out He.out,eF,eF]),YJ _ _ _ _⟩
   obtain rfl:k=0:=by omega
   have he:trim xs=trim ys:=ht.out
   go_wp2_with fail
   go_ret
   exact⟨xQ (by rw[<-eF 4294967296 xs,he,eF];exact(yX rfl).symm),_,rfl⟩
 have hq:((n1:Int)!=(m1:Int))=true:=by rw[bne_iff_ne];omega
 go_enter Tryz.func232,Tryz.ntmps232
 go_wp2_with fail
 refine(fA _ _ _ n1 xs _ _ ha Hn1.out).mono ?_
 rintro e w' ⟨rfl,rfl⟩
 go_wp2_with fail
 refine(fA _ _ _ m1 ys _ _ hb Hm1.out).mono ?_
 rintro e w' ⟨rfl,rfl⟩
 go_wp2_with fail
 refine(Tg _ _ _).mono ?_
 rintro e w' ⟨rfl,rfl⟩
 go_wp2_with fail
 go_ret
 refine⟨xQ ?_,0,rfl⟩
 have:=Ti ha.lim hb.lim (by rw[Hn1.out,Hm1.out];exact hne)
 rw[Hn1.out,Hm1.out]at this
 exact this
def AddInv (xs ys os:List Nat) (k C:Nat):Prop:=
 C<=1/\vl 4294967296 (os.take k)+4294967296^k*C=vl 4294967296 (xs.take k)+vl 4294967296 (ys.take k)
theorem AddInv.zero (xs ys os:List Nat):AddInv xs ys os 0 0:=⟨by omega,by simp[vl]⟩
theorem AddInv.le {xs ys os:List Nat}{k C:Nat}(h:AddInv xs ys os k C):C<=1:=h.1
theorem AddInv.step {xs ys os:List Nat}{k C:Nat}(h:AddInv xs ys os k C) (hk:k<os.length) (hx:Lim 4294967296 xs) (hy:Lim 4294967296 ys):
  AddInv xs ys (os.set k ((nth xs k+nth ys k+C)%4294967296)) (k+1) ((nth xs k+nth ys k+C)/4294967296):=by
 obtain⟨h1,h2⟩:=h
 have x1:=hx.nth (by omega) k
 have y1:=hy.nth (by omega) k
 refine⟨by omega,?_⟩
 rw[kB _ _ hk,cD,cD,Nat.pow_succ]
 have e:=Nat.mod_add_div (nth xs k+nth ys k+C) 4294967296
 generalize 4294967296^k=p at*
 generalize (nth xs k+nth ys k+C)/4294967296=q at*
 generalize (nth xs k+nth ys k+C)%4294967296=r at*
 have e2:p*(r+4294967296*q)=p*(nth xs k+nth ys k+C):=by rw[e]
 grind
theorem AddInv.end_ {xs ys os:List Nat}{n C:Nat}(h:AddInv xs ys os n C) (hos:os.length=n+1) (hx:xs.length<=n) (hy:ys.length<=n):
  vl 4294967296 (os.set n C)=vl 4294967296 xs+vl 4294967296 ys:=by
 have h2:=h.2
 rw[cK _ hx,cK _ hy]at h2
 rw[<-h2,<-kB _ C (by omega),cK]
 rw[List.length_set];omega
set_option maxHeartbeats 1000000 in
theorem Tj (A B:Option Addr) (n m c d:Nat) (xs ys:List Nat) (w:World) (ha:U32 w w.heap.size A n c xs) (hb:U32 w w.heap.size B m d ys) (hn:n<=1099511627776) (hmn:m<=n):
  Calls Tryz.prog 218 #[.slice A n c,.slice B m d] w (rC (dg 4294967296 (vl 4294967296 xs+vl 4294967296 ys)) w):=by
 have hlt':¬n<m:=by omega
 have Hx:=Lib.hid ha.len
 have Hy:=Lib.hid hb.len
 go_enter Tryz.func218,Tryz.ntmps218
 go_wp2_with (refine sY _ vV rfl (.tmp 18) (.tmp 18) rfl .i64 .i64 _ _ (n+1) rfl rfl (by omega) (by omega) (by omega) (by omega) ?_;intro w1 hown hb1 hz1)
 have hO:=Own.made hown
 clear hown
 go_wp2_with fail
 go_loopw [6,22] (fun cy i wr=>∃(k C:Nat) (os:List Nat),k<=n/\i=.int .i64 (k:Int)/\cy=.int .u32 (C:Int)/\Own 223 wr w.heap.size (some ⟨w.heap.size,0,none⟩) (n+1) (n+1) os/\AddInv xs ys os k C/\Below w.heap.size w wr/\w.heap.size<wr.heap.size) (fun _ i _=>n-(intOf i).toNat)
 case atStart=>exact⟨0,0,_,Nat.zero_le _,rfl,rfl,hO,AddInv.zero _ _ _,hb1,hz1⟩
 case round=>
  obtain⟨k,C,os,hk,rfl,rfl,hown,hI,hbw,hz⟩:=hrel
  have hC:=hI.le
  by_cases hlt:k<n
  ·obtain⟨b,o,sp,rfl,hbb,hcc⟩:=(ha.below hbw).at_ hlt
   have ho1:=hown.cell (show k<n+1 by omega)
   have ho2:=hown.frozen k
   have hx1:=ha.lim.nth (by omega) k
   have hy1:=hb.lim.nth (by omega) k
   have hset:=hown.set k (v:=(nth xs k+nth ys k+C)%4294967296) (Nat.mod_lt _ (by omega))
   have hstep:=hI.step (by rw[hown.len];omega) ha.lim hb.lim
   by_cases hm:k<m
   ·obtain⟨b2,o2,sp2,rfl,hbb2,hcc2⟩:=(hb.below hbw).at_ hm
    go_wp2_with fail
    refine(rB _ _ _ _ ?_ ?_ ?_ ?_ ?_ ?_).mono ?_ <;> try omega
    rintro e w' ⟨rfl,rfl⟩
    go_wp2_with fail
    go_roundw
    case rel=>exact⟨k+1,_,_,by omega,by go_num,rfl,hset,hstep,hbw.setCell (aX _) _,by simpa using hz⟩
    case measure=>simp[intOf];omega
   have hy0:nth ys k=0:=fP (by rw[Hy.out];omega)
   rw[hy0]at hset hstep
   clear hy0
   go_wp2_with fail
   refine(rB _ _ _ _ ?_ ?_ ?_ ?_ ?_ ?_).mono ?_ <;> try omega
   rintro e w' ⟨rfl,rfl⟩
   go_wp2_with fail
   go_roundw
   case rel=>exact⟨k+1,_,_,by omega,by go_num,rfl,hset,hstep,hbw.setCell (aX _) _,by simpa using hz⟩
   case measure=>simp[intOf];omega
  obtain rfl:k=n:=by omega
  have ho1:=hown.cell (show k<k+1 by omega)
  have ho2:=hown.frozen k
  have hset:=hown.set k (v:=C) (by omega)
  have hend:=Lib.hid (hI.end_ hown.len (by rw[Hx.out];exact aX _) (by rw[Hy.out];omega))
  have hbe:=hbw.setCell (p:=⟨w.heap.size,k,none⟩) (aX _) (.int .u32 (C:Int))
  clear hb1 hbw hI hown hz1
  go_wp2_with fail
  refine(kW _ _ _ _ _ _ hset.u32).mono ?_
  rintro e w' ⟨rfl,rfl⟩
  go_wp2_with fail
  go_ret
  exact⟨_,_,_,rfl,by rw[<-hend.out,fR (by omega) hset.lim];exact hset.trim,hbe⟩
set_option maxHeartbeats 1000000 in
theorem Tk (A B:Option Addr) (n m c d:Nat) (xs ys:List Nat) (w:World) (ha:U32 w w.heap.size A n c xs) (hb:U32 w w.heap.size B m d ys) (hm:m<=1099511627776) (hmn:n<m):
  Calls Tryz.prog 218 #[.slice A n c,.slice B m d] w (rC (dg 4294967296 (vl 4294967296 xs+vl 4294967296 ys)) w):=by
 have hlt':n<m:=by omega
 have Hx:=Lib.hid hb.len
 have Hy:=Lib.hid ha.len
 go_enter Tryz.func218,Tryz.ntmps218
 go_wp2_with (refine sY _ vV rfl (.tmp 18) (.tmp 18) rfl .i64 .i64 _ _ (m+1) rfl rfl (by omega) (by omega) (by omega) (by omega) ?_;intro w1 hown hb1 hz1)
 have hO:=Own.made hown
 clear hown
 go_wp2_with fail
 go_loopw [6,22] (fun cy i wr=>∃(k C:Nat) (os:List Nat),k<=m/\i=.int .i64 (k:Int)/\cy=.int .u32 (C:Int)/\Own 223 wr w.heap.size (some ⟨w.heap.size,0,none⟩) (m+1) (m+1) os/\AddInv ys xs os k C/\Below w.heap.size w wr/\w.heap.size<wr.heap.size) (fun _ i _=>m-(intOf i).toNat)
 case atStart=>exact⟨0,0,_,Nat.zero_le _,rfl,rfl,hO,AddInv.zero _ _ _,hb1,hz1⟩
 case round=>
  obtain⟨k,C,os,hk,rfl,rfl,hown,hI,hbw,hz⟩:=hrel
  have hC:=hI.le
  by_cases hlt:k<m
  ·obtain⟨b,o,sp,rfl,hbb,hcc⟩:=(hb.below hbw).at_ hlt
   have ho1:=hown.cell (show k<m+1 by omega)
   have ho2:=hown.frozen k
   have hx1:=hb.lim.nth (by omega) k
   have hy1:=ha.lim.nth (by omega) k
   have hset:=hown.set k (v:=(nth ys k+nth xs k+C)%4294967296) (Nat.mod_lt _ (by omega))
   have hstep:=hI.step (by rw[hown.len];omega) hb.lim ha.lim
   by_cases hm:k<n
   ·obtain⟨b2,o2,sp2,rfl,hbb2,hcc2⟩:=(ha.below hbw).at_ hm
    go_wp2_with fail
    refine(rB _ _ _ _ ?_ ?_ ?_ ?_ ?_ ?_).mono ?_ <;> try omega
    rintro e w' ⟨rfl,rfl⟩
    go_wp2_with fail
    go_roundw
    case rel=>exact⟨k+1,_,_,by omega,by go_num,rfl,hset,hstep,hbw.setCell (aX _) _,by simpa using hz⟩
    case measure=>simp[intOf];omega
   have hy0:nth xs k=0:=fP (by rw[Hy.out];omega)
   rw[hy0]at hset hstep
   clear hy0
   go_wp2_with fail
   refine(rB _ _ _ _ ?_ ?_ ?_ ?_ ?_ ?_).mono ?_ <;> try omega
   rintro e w' ⟨rfl,rfl⟩
   go_wp2_with fail
   go_roundw
   case rel=>exact⟨k+1,_,_,by omega,by go_num,rfl,hset,hstep,hbw.setCell (aX _) _,by simpa using hz⟩
   case measure=>simp[intOf];omega
  obtain rfl:k=m:=by omega
  have ho1:=hown.cell (show k<k+1 by omega)
  have ho2:=hown.frozen k
  have hset:=hown.set k (v:=C) (by omega)
  have hend:=Lib.hid (hI.end_ hown.len (by rw[Hx.out];exact aX _) (by rw[Hy.out];omega))
  have hbe:=hbw.setCell (p:=⟨w.heap.size,k,none⟩) (aX _) (.int .u32 (C:Int))
  clear hb1 hbw hI hown hz1
  go_wp2_with fail
  refine(kW _ _ _ _ _ _ hset.u32).mono ?_
  rintro e w' ⟨rfl,rfl⟩
  go_wp2_with fail
  go_ret
  exact⟨_,_,_,rfl,by rw[Nat.add_comm (vl 4294967296 xs) (vl 4294967296 ys),<-hend.out,fR (by omega) hset.lim];exact hset.trim,hbe⟩
theorem IG (A B:Option Addr) (n m c d:Nat) (xs ys:List Nat) (w:World) (ha:U32 w w.heap.size A n c xs) (hb:U32 w w.heap.size B m d ys) (hn:n<=1099511627776) (hm:m<=1099511627776):
  Calls Tryz.prog 218 #[.slice A n c,.slice B m d] w (rC (dg 4294967296 (vl 4294967296 xs+vl 4294967296 ys)) w):=by
 by_cases h:m<=n
 ·exact Tj A B n m c d xs ys w ha hb hn h
 exact Tk A B n m c d xs ys w ha hb hm (by omega)
def gN (n:Nat):Nat:=n%4294967296
def nM (n:Nat):Nat:=n/4294967296
theorem Ek (n:Nat):gN n<4294967296:=Nat.mod_lt _ (by omega)
theorem Zh (n:Nat):gN n+4294967296*nM n=n:=Nat.mod_add_div n 4294967296
theorem LN {n:Nat}(h:n<18446744073709551616):nM n<4294967296:=by unfold nM;omega
def pB (x y c:Nat):Nat:=(x+8589934592-y-c)%4294967296
def rD (x y c:Nat):Nat:=if x<y+c then 1 else 0
theorem Wf (x y c:Nat):pB x y c<4294967296:=Nat.mod_lt _ (by omega)
theorem Wg (x y c:Nat):rD x y c<=1:=by unfold rD;split <;> omega
theorem DR {x y c:Nat}(hx:x<4294967296) (hy:y<4294967296) (hc:c<=1):pB x y c+y+c=x+4294967296*rD x y c:=by
 unfold pB rD;split <;> omega
theorem xM (x y c:Nat) (w:World) (x1:x<4294967296) (y1:y<4294967296) (c1:c<4294967296):
  Calls Tryz.prog 237 #[.int .u32 (x:Int),.int .u32 (y:Int),.int .u32 (c:Int)] w fun e w'=>
   e=.returned (.tuple #[.int .u32 (gN (x+y+c):Nat),.int .u32 (nM (x+y+c):Nat)])/\w=w':=
 (rB _ _ _ w (by omega) (by omega) (by omega) (by omega) (by omega) (by omega)).mono fun _ _ ⟨h1,h2⟩=>⟨h1,h2⟩
theorem Tl (x y:Nat) (w:World) (x1:x<4294967296) (y1:y<4294967296):
  Calls Tryz.prog 204 #[.int .u32 (x:Int),.int .u32 (y:Int)] w fun e w'=>
   e=.returned (.tuple #[.int .u32 (nM (x*y):Nat),.int .u32 (gN (x*y):Nat)])/\w=w':=
 (Zd _ _ w (by omega) (by omega) (by omega) (by omega)).mono fun _ _ ⟨h1,h2⟩=>⟨h1,h2⟩
theorem Fa (x y c:Nat) (w:World) (x1:x<4294967296) (y1:y<4294967296) (c1:c<=1):
  Calls Tryz.prog 238 #[.int .u32 (x:Int),.int .u32 (y:Int),.int .u32 (c:Int)] w fun e w'=>
   e=.returned (.tuple #[.int .u32 (pB x y c:Nat),.int .u32 (rD x y c:Nat)])/\w=w':=by
 have e1:((pB x y c:Nat):Int)=((x:Int)-y-c)%4294967296:=by unfold pB;omega
 have e2:((rD x y c:Nat):Int)=Rp x y c:=by unfold rD Rp;split <;> split <;> omega
 rw[e1,e2]
 exact Ze _ _ _ w (by omega) (by omega) (by omega) (by omega) (by omega) (by omega)
theorem Tm (h l d:Nat) (w:World) (hd:h<d) (l1:l<4294967296) (d1:d<4294967296):
  Calls Tryz.prog 203 #[.int .u32 (h:Int),.int .u32 (l:Int),.int .u32 (d:Int)] w fun e w'=>
   e=.returned (.tuple #[.int .u32 ((h*4294967296+l)/d:Nat),.int .u32 ((h*4294967296+l)%d:Nat)])/\∃n,w'=w.drewN n:=
 (Zf _ _ _ w (by omega) (by omega) (by omega) (by omega) (by omega)).mono fun _ _ ⟨h1,h2⟩=>⟨h1,h2⟩
def SubInv (xs ys os:List Nat) (k C:Nat):Prop:=
 C<=1/\os.length=xs.length/\vl 4294967296 (os.take k)+vl 4294967296 (ys.take k)=vl 4294967296 (xs.take k)+4294967296^k*C/\∀j,k<=j->nth os j=nth xs j
theorem SubInv.zero (xs ys:List Nat):SubInv xs ys xs 0 0:=⟨by omega,rfl,by simp[vl],fun _ _=>rfl⟩
theorem SubInv.le {xs ys os:List Nat}{k C:Nat}(h:SubInv xs ys os k C):C<=1:=h.1
theorem SubInv.at_ {xs ys os:List Nat}{k C:Nat}(h:SubInv xs ys os k C):nth os k=nth xs k:=h.2.2.2 k (aX _)
theorem oS {l:List Nat}{i j v:Nat}(h:i≠j):nth (l.set i v) j=nth l j:=by
 unfold nth;rw[List.getD_eq_getElem?_getD,List.getD_eq_getElem?_getD,List.getElem?_set_ne h]
theorem Iw {l:List Nat}{i v:Nat}(h:i<l.length):nth (l.set i v) i=v:=by
 rw[dT (by rw[List.length_set];exact h),List.getElem_set_self]
theorem SubInv.step {xs ys os:List Nat}{k C:Nat}(h:SubInv xs ys os k C) (hk:k<xs.length) (hx:Lim 4294967296 xs) (hy:Lim 4294967296 ys):
  SubInv xs ys (os.set k (pB (nth xs k) (nth ys k) C)) (k+1) (rD (nth xs k) (nth ys k) C):=by
 obtain⟨h1,hl,h2,h3⟩:=h
 have x1:=hx.nth (by omega) k
 have y1:=hy.nth (by omega) k
 have e:=DR x1 y1 h1
 refine⟨Wg _ _ _,by rw[List.length_set,hl],?_,fun j hj=>by rw[oS (by omega)];exact h3 j (by omega)⟩
 rw[kB _ _ (by omega),cD,cD,Nat.pow_succ]
 generalize 4294967296^k=p at*
 generalize pB (nth xs k) (nth ys k) C=s at*
 generalize rD (nth xs k) (nth ys k) C=q at*
 have e2:p*(s+nth ys k+C)=p*(nth xs k+4294967296*q):=by rw[e]
 grind
theorem SubInv.end_ {xs ys os:List Nat}{C:Nat}(h:SubInv xs ys os xs.length C) (ho:Lim 4294967296 os) (hy:ys.length<=xs.length) (hle:vl 4294967296 ys<=vl 4294967296 xs):
  vl 4294967296 os=vl 4294967296 xs-vl 4294967296 ys:=by
 obtain⟨h1,hl,h2,_⟩:=h
 rw[cK _ hy,cK _ (aX _),cK _ (by omega)]at h2
 have:=fY ho
 rw[hl]at this
 have hC:C=0\/C=1:=by omega
 rcases hC with rfl | rfl
 ·omega
 omega
def MulInv (xs os:List Nat) (m k C:Nat):Prop:=C<4294967296/\vl 4294967296 (os.take k)+4294967296^k*C=vl 4294967296 (xs.take k)*m
theorem MulInv.zero (xs os:List Nat) (m:Nat):MulInv xs os m 0 0:=⟨by omega,by simp[vl]⟩
theorem MulInv.lt {xs os:List Nat}{m k C:Nat}(h:MulInv xs os m k C):C<4294967296:=h.1
theorem YK {x m C:Nat}(hx:x<4294967296) (hm:m<4294967296) (hC:C<4294967296):x*m+C<=18446744069414584320:=by
 have:x*m<=4294967295*4294967295:=Nat.mul_le_mul (by omega) (by omega)
 omega
theorem Rs {x m C:Nat}(hx:x<4294967296) (hm:m<4294967296) (hC:C<4294967296):
  nM (x*m)+nM (gN (x*m)+C)=nM (x*m+C)/\gN (gN (x*m)+C)=gN (x*m+C)/\nM (x*m+C)<4294967296:=by
 have:=YK hx hm hC
 unfold nM gN
 omega
theorem MulInv.step {xs os:List Nat}{m k C:Nat}(h:MulInv xs os m k C) (hk:k<os.length) (hx:Lim 4294967296 xs) (hm:m<4294967296):
  MulInv xs (os.set k (gN (nth xs k*m+C))) m (k+1) (nM (nth xs k*m+C)):=by
 obtain⟨h1,h2⟩:=h
 have x1:=hx.nth (by omega) k
 refine⟨(Rs x1 hm h1).2.2,?_⟩
 rw[kB _ _ hk,cD,Nat.pow_succ]
 have e:=Zh (nth xs k*m+C)
 generalize 4294967296^k=p at*
 generalize gN (nth xs k*m+C)=s at*
 generalize nM (nth xs k*m+C)=q at*
 have e2:p*(s+4294967296*q)=p*(nth xs k*m+C):=by rw[e]
 grind
theorem MulInv.end_ {xs os:List Nat}{m n C:Nat}(h:MulInv xs os m n C) (hos:os.length=n+1) (hx:xs.length<=n):
  vl 4294967296 (os.set n C)=vl 4294967296 xs*m:=by
 have h2:=h.2
 rw[cK _ hx]at h2
 rw[<-h2,<-kB _ C (by omega),cK]
 rw[List.length_set];omega
def DivInv (xs os:List Nat) (d k r:Nat):Prop:=
 r<d/\os.length=xs.length/\vl 4294967296 (os.drop k)*d+r=vl 4294967296 (xs.drop k)/\∀j,j<k->nth os j=nth xs j
theorem DivInv.top (xs:List Nat){d:Nat}(hd:0<d):DivInv xs xs d xs.length 0:=⟨hd,rfl,by simp[vl],fun _ _=>rfl⟩
theorem DivInv.lt {xs os:List Nat}{d k r:Nat}(h:DivInv xs os d k r):r<d:=h.1
theorem DivInv.at_ {xs os:List Nat}{d k r:Nat}(h:DivInv xs os d k r) (h0:0<k):nth os (k-1)=nth xs (k-1):=h.2.2.2 _ (by omega)
theorem mI (B:Nat){l:List Nat}{k:Nat}(h0:0<k) (h:k<=l.length):vl B (l.drop (k-1))=nth l (k-1)+B*vl B (l.drop k):=by
 have e:=List.drop_eq_getElem_cons (show k-1<l.length by omega)
 rw[show k-1+1=k from by omega]at e
 rw[e,iF,dT]
theorem DivInv.step {xs os:List Nat}{d k r:Nat}(h:DivInv xs os d k r) (h0:0<k) (hk:k<=xs.length) (hd:0<d):
  DivInv xs (os.set (k-1) ((r*4294967296+nth xs (k-1))/d)) d (k-1) ((r*4294967296+nth xs (k-1))%d):=by
 obtain⟨h1,hl,h2,h3⟩:=h
 refine⟨Nat.mod_lt _ hd,by rw[List.length_set,hl],?_,fun j hj=>by rw[oS (by omega)];exact h3 j (by omega)⟩
 rw[mI _ h0 (by rw[List.length_set];omega),mI _ h0 hk,Iw (by omega),List.drop_set_of_lt (by omega)]
 have e:=Nat.div_add_mod (r*4294967296+nth xs (k-1)) d
 generalize (r*4294967296+nth xs (k-1))/d=q at*
 generalize (r*4294967296+nth xs (k-1))%d=s at*
 grind
theorem DivInv.end_ {xs os:List Nat}{d r:Nat}(h:DivInv xs os d 0 r) (hd:0<d):vl 4294967296 os=vl 4294967296 xs/d/\r=vl 4294967296 xs%d:=by
 obtain⟨h1,_,h2,_⟩:=h
 simp only[List.drop_zero]at h2
 have e:vl 4294967296 xs=r+d*vl 4294967296 os:=by rw[<-h2,Nat.mul_comm];omega
 rw[e,Nat.add_mul_div_left _ _ hd,Nat.add_mul_mod_self_left,Nat.div_eq_of_lt h1,Nat.mod_eq_of_lt h1]
 exact⟨by omega,rfl⟩
set_option maxHeartbeats 1000000 in
theorem Nb (A:Option Addr) (n c m:Nat) (xs:List Nat) (w:World) (ha:U32 w w.heap.size A n c xs) (hn:n<=1099511627776) (hm:m<4294967296):
  Calls Tryz.prog 249 #[.slice A n c,.int .u32 (m:Int)] w (rC (dg 4294967296 (vl 4294967296 xs*m)) w):=by
 have Hx:=Lib.hid ha.len
 go_enter Tryz.func249,Tryz.ntmps249
 go_wp2_with (refine sY _ vV rfl (.tmp 15) (.tmp 15) rfl .i64 .i64 _ _ (n+1) rfl rfl (by omega) (by omega) (by omega) (by omega) ?_;intro w1 hown hb1 hz1)
 have hO:=Own.made hown
 clear hown
 go_wp2_with fail
 go_loopw [6,19] (fun cy i wr=>∃(k C:Nat) (os:List Nat),k<=n/\i=.int .i64 (k:Int)/\cy=.int .u32 (C:Int)/\Own 223 wr w.heap.size (some ⟨w.heap.size,0,none⟩) (n+1) (n+1) os/\MulInv xs os m k C/\Below w.heap.size w wr/\w.heap.size<wr.heap.size) (fun _ i _=>n-(intOf i).toNat)
 case atStart=>exact⟨0,0,_,Nat.zero_le _,rfl,rfl,hO,MulInv.zero _ _ _,hb1,hz1⟩
 case round=>
  obtain⟨k,C,os,hk,rfl,rfl,hown,hI,hbw,hz⟩:=hrel
  have hC:=hI.lt
  by_cases hlt:k<n
  ·obtain⟨b,o,sp,rfl,hbb,hcc⟩:=(ha.below hbw).at_ hlt
   have ho1:=hown.cell (show k<n+1 by omega)
   have ho2:=hown.frozen k
   have hx1:=ha.lim.nth (by omega) k
   obtain⟨e1,e2,e3⟩:=Rs hx1 hm hC
   have hset:=hown.set k (v:=gN (nth xs k*m+C)) (Ek _)
   rw[<-e2]at hset
   have hstep:=hI.step (by rw[hown.len];omega) ha.lim hm
   rw[<-e2]at hstep
   rw[<-e1]at e3 hstep
   clear e1 e2
   have hl1:=Ek (nth xs k*m)
   go_wp2_with fail
   refine(Tl _ _ _ hx1 hm).mono ?_
   rintro e w' ⟨rfl,rfl⟩
   go_wp2_with fail
   refine(xM _ _ 0 _ (Ek _) hC (by omega)).mono ?_
   rintro e w' ⟨rfl,rfl⟩
   rw[Nat.add_zero]
   go_wp2_with fail
   go_roundw
   case rel=>exact⟨k+1,_,_,by omega,by go_num,by go_num,hset,hstep,hbw.setCell (aX _) _,by simpa using hz⟩
   case measure=>simp[intOf];omega
  obtain rfl:k=n:=by omega
  have ho1:=hown.cell (show k<k+1 by omega)
  have ho2:=hown.frozen k
  have hset:=hown.set k (v:=C) (by omega)
  have hend:=Lib.hid (hI.end_ hown.len (by rw[Hx.out];exact aX _))
  have hbe:=hbw.setCell (p:=⟨w.heap.size,k,none⟩) (aX _) (.int .u32 (C:Int))
  clear hb1 hbw hI hown hz1
  go_wp2_with fail
  refine(kW _ _ _ _ _ _ hset.u32).mono ?_
  rintro e w' ⟨rfl,rfl⟩
  go_wp2_with fail
  go_ret
  exact⟨_,_,_,rfl,by rw[<-hend.out,fR (by omega) hset.lim];exact hset.trim,hbe⟩
def YL (xs:List Nat) (r e1:Nat) (w:World) (e:Ending) (w':World):Prop:=
 ∃A n c,e=.returned (.tuple #[.slice A n c,.int .u32 (r:Int),.int .i64 (e1:Int)])/\Own 223 w' w.heap.size A n c xs/\Below w.heap.size w w'
set_option maxHeartbeats 1000000 in
theorem uC (A:Option Addr) (n c d:Nat) (xs:List Nat) (w:World) (ha:U32 w w.heap.size A n c xs) (hn:n<=1099511627776) (hd0:0<d) (hd:d<4294967296):
  Calls Tryz.prog 150 #[.slice A n c,.int .u32 (d:Int)] w (YL (dg 4294967296 (vl 4294967296 xs/d)) (vl 4294967296 xs%d) 0 w):=by
 have Hx:=Lib.hid ha.len
 have hne:((d:Int)==0)=false:=by rw[beq_eq_false_iff_ne];omega
 go_enter Tryz.func150,Tryz.ntmps150
 go_wp2_with fail
 refine(vB _ _ _ xs _ ha hn).mono ?_
 rintro e w1 ⟨A1,n1,c1,rfl,hO,hb1⟩
 obtain rfl:n1=n:=by rw[<-hO.len,Hx.out]
 go_wp2_with fail
 go_loopw [5,7] (fun r i wr=>∃(k R:Nat) (os:List Nat),k<=n1/\i=.int .i64 ((k:Int)-1)/\r=.int .u32 (R:Int)/\Own 223 wr w.heap.size A1 n1 c1 os/\DivInv xs os d k R/\Below w.heap.size w wr) (fun _ i _=>(intOf i+1).toNat)
 case atStart=>exact⟨n1,0,xs,aX _,by go_num,rfl,hO,by have:=DivInv.top xs hd0;rwa[Hx.out]at this,hb1⟩
 case round=>
  obtain⟨k,R,os,hk,rfl,rfl,hown,hI,hbw⟩:=hrel
  have hR:=hI.lt
  by_cases h0:0<k
  ·obtain⟨g,rfl,hg1,hg2⟩:=hown.form (by omega)
   have ho1:=hown.cell (show k-1<n1 by omega)
   rw[hI.at_ h0]at ho1
   have ho2:=hown.frozen (k-1)
   have hx1:=ha.lim.nth (by omega) (k-1)
   have hq:(R*4294967296+nth xs (k-1))/d<4294967296:=by
    apply Nat.div_lt_of_lt_mul
    have:(R+1)*4294967296<=d*4294967296:=Nat.mul_le_mul_right _ (by omega)
    omega
   have hset:=fun q=>(hown.drewN q).set (k-1) hq
   have hstep:=hI.step h0 (by rw[Hx.out];exact hk) hd0
   go_wp2_with fail
   refine(Tm _ _ _ _ hR hx1 hd).mono ?_
   rintro e w' ⟨rfl,q,rfl⟩
   go_wp2_with fail
   go_roundw
   case rel=>exact⟨k-1,_,_,by omega,by go_num,rfl,hset q,hstep,(iZ hbw _).setCell hg1 _⟩
   case measure=>simp[intOf];omega
  obtain rfl:k=0:=by omega
  obtain⟨h1,h2⟩:=hI.end_ hd0
  have H1:=Lib.hid h1
  have H2:=Lib.hid h2
  clear h1 h2
  go_wp2_with fail
  refine(kW _ _ _ _ _ _ hown.u32).mono ?_
  rintro e w' ⟨rfl,rfl⟩
  go_wp2_with fail
  go_ret3
  exact⟨_,_,_,by rw[<-H2.out];rfl,by rw[<-H1.out,fR (by omega) hown.lim];exact hown.trim,hbw⟩
def Cv (xs:List Nat) (e1:Nat) (w:World) (e:Ending) (w':World):Prop:=
 ∃A n c,e=.returned (.tuple #[.slice A n c,.int .i64 (e1:Int)])/\Own 223 w' w.heap.size A n c xs/\Below w.heap.size w w'
theorem Own.drew_base {t:TypeId}{w:World}{base n c:Nat}{A:Option Addr}{xs:List Nat}{k:Nat}(h:Own t w base A n c xs):Own t (w.drewN k) base A n c xs:=⟨h.row,h.lim⟩
set_option maxHeartbeats 1000000 in
theorem IH (A B:Option Addr) (n m c d:Nat) (xs ys:List Nat) (w:World) (ha:U32 w w.heap.size A n c xs) (hb:U32 w w.heap.size B m d ys) (hn:n<=1099511627776) (hle:vl 4294967296 ys<=vl 4294967296 xs):
  Calls Tryz.prog 219 #[.slice A n c,.slice B m d] w (Cv (dg 4294967296 (vl 4294967296 xs-vl 4294967296 ys)) 0 w):=by
 have ha1:=ha.trim
 have hb1:=hb.trim
 have htl:=dH xs
 rw[ha.len]at htl
 obtain⟨n1,hn1⟩:∃n1,(trim xs).length=n1:=⟨_,rfl⟩
 obtain⟨m1,hm1⟩:∃m1,(trim ys).length=m1:=⟨_,rfl⟩
 have hyx:m1<=n1:=by
  rcases Nat.lt_or_ge n1 m1 with h | h
  ·have:=lK (B:=4294967296) (by omega) ha.lim.trim (sX ys) (by omega)
   rw[eF,eF]at this
   omega
  exact h
 rw[hn1]at ha1 htl
 rw[hm1]at hb1
 have Hn1:=Lib.hid hn1
 have Hm1:=Lib.hid hm1
 clear hn1 hm1
 have hge:¬sK (vl 4294967296 (trim xs)) (vl 4294967296 (trim ys))<0:=by
  rw[eF,eF]
  rcases Nat.lt_or_ge (vl 4294967296 ys) (vl 4294967296 xs)with h | h
  ·rw[qK h];omega
  rw[yX (by omega)];omega
 go_enter Tryz.func219,Tryz.ntmps219
 go_wp2_with fail
 refine(fA _ _ _ n1 _ _ _ ha Hn1.out).mono ?_
 rintro e w' ⟨rfl,rfl⟩
 go_wp2_with fail
 refine(fA _ _ _ m1 _ _ _ hb Hm1.out).mono ?_
 rintro e w' ⟨rfl,rfl⟩
 go_wp2_with fail
 refine(vW _ _ _ _ _ _ _ _ _ _ ha1 hb1).mono ?_
 rintro e w' ⟨rfl,q,rfl⟩
 go_wp2_with fail
 refine(vB _ _ _ (trim xs) (w.drewN q) (ha1.below (iZ (Below.refl _ _) q)) (by omega)).mono ?_
 rintro e w1 ⟨A1,n2,c1,rfl,hO,hbw1⟩
 obtain rfl:n2=n1:=by rw[<-hO.len,Hn1.out]
 have hbw2:Below w.heap.size w w1:=(iZ (Below.refl _ _) q).trans hbw1
 clear hbw1
 go_wp2_with fail
 go_loopw [7,22] (fun cy i wr=>∃(k C:Nat) (os:List Nat),k<=n2/\i=.int .i64 (k:Int)/\cy=.int .u32 (C:Int)/\Own 223 wr w.heap.size A1 n2 c1 os/\SubInv (trim xs) (trim ys) os k C/\Below w.heap.size w wr) (fun _ i _=>n2-(intOf i).toNat)
 case atStart=>exact⟨0,0,_,Nat.zero_le _,rfl,rfl,hO,SubInv.zero _ _,hbw2⟩
 case round=>
  obtain⟨k,C,os,hk,rfl,rfl,hown,hI,hbw⟩:=hrel
  have hC:=hI.le
  by_cases hlt:k<n2
  ·obtain⟨g,rfl,hg1,hg2⟩:=hown.form (by omega)
   have ho1:=hown.cell hlt
   rw[hI.at_]at ho1
   have ho2:=hown.frozen k
   have hx1:=ha1.lim.nth (by omega) k
   have hy1:=hb1.lim.nth (by omega) k
   have hset:=hown.set k (v:=pB (nth (trim xs) k) (nth (trim ys) k) C) (Wf _ _ _)
   have hstep:=hI.step (by rw[Hn1.out];exact hlt) ha1.lim hb1.lim
   by_cases hm:k<m1
   ·obtain⟨b2,o2,sp2,rfl,hbb2,hcc2⟩:=(hb1.below hbw).at_ hm
    go_wp2_with fail
    refine(Fa _ _ _ _ hx1 hy1 hC).mono ?_
    rintro e w' ⟨rfl,rfl⟩
    go_wp2_with fail
    go_roundw
    case rel=>exact⟨k+1,_,_,by omega,by go_num,rfl,hset,hstep,hbw.setCell hg1 _⟩
    case measure=>simp[intOf];omega
   have hy0:nth (trim ys) k=0:=fP (by rw[Hm1.out];omega)
   rw[hy0]at hset hstep
   clear hy0
   go_wp2_with fail
   refine(Fa _ 0 _ _ hx1 (by omega) hC).mono ?_
   rintro e w' ⟨rfl,rfl⟩
   go_wp2_with fail
   go_roundw
   case rel=>exact⟨k+1,_,_,by omega,by go_num,rfl,hset,hstep,hbw.setCell hg1 _⟩
   case measure=>simp[intOf];omega
  obtain rfl:k=n2:=by omega
  have hend:=hI
  rw[<-Hn1.out]at hend
  have hend2:=Lib.hid (hend.end_ hown.lim (by rw[Hn1.out,Hm1.out];exact hyx) (by rw[eF,eF];exact hle))
  clear hend
  go_wp2_with fail
  refine(kW _ _ _ _ _ _ hown.u32).mono ?_
  rintro e w' ⟨rfl,rfl⟩
  go_wp2_with fail
  go_ret2
  exact⟨_,_,_,rfl,by rw[<-eF 4294967296 xs,<-eF 4294967296 ys,<-hend2.out,fR (by omega) hown.lim];exact hown.trim,hbw⟩
def DS (xs:List Nat) (w:World) (e:Ending) (w':World):Prop:=
 ∃A n c,e=.returned (.slice A n c)/\U32 w' w'.heap.size A n c xs/\Below w.heap.size w w'
theorem Wh (n:Nat) (h:n<32):(2:Int)^n%4294967296=((2^n:Nat):Int)/\2^n<4294967296/\0<2^n:=by
 have h1:2^n<2^32:=Nat.pow_lt_pow_right (by omega) h
 have h2:0<2^n:=Nat.pos_of_ne_zero (by simp)
 refine⟨?_,by omega,h2⟩
 have e:((2:Int)^n)=((2^n:Nat):Int):=by simp
 rw[e]
 omega
set_option maxHeartbeats 400000 in
theorem DT (A:Option Addr) (n c v k:Nat) (w:World) (ha:U32 w w.heap.size A n c (dg 4294967296 v)) (hn:n<=1099511627776) (hk:k<32):
  Calls Tryz.prog 244 #[.slice A n c,.int .i64 (k:Int)] w (DS (dg 4294967296 (v*2^k)) w):=by
 by_cases h0:k=0
 ·subst h0
  go_enter Tryz.func244,Tryz.ntmps244
  go_wp2_with fail
  go_ret
  exact⟨_,_,_,rfl,by simpa using ha,Below.refl _ _⟩
 have hne:((k:Int)==0)=false:=by rw[beq_eq_false_iff_ne];omega
 obtain⟨e1,e2,_⟩:=Wh k hk
 have E1:=Lib.hid e1
 clear e1
 go_enter Tryz.func244,Tryz.ntmps244
 go_wp2_with fail
 rw[E1.out]
 refine(Nb _ _ _ _ _ _ ha hn e2).mono ?_
 rintro e w1 ⟨A1,n1,c1,rfl,h1,hb1⟩
 go_wp2_with fail
 go_ret
 exact⟨_,_,_,rfl,by rw[cL (by omega)]at h1;exact h1.u32,hb1⟩
set_option maxHeartbeats 400000 in
theorem Zj (A:Option Addr) (n c v k:Nat) (w:World) (ha:U32 w w.heap.size A n c (dg 4294967296 v)) (hn:n<=1099511627776) (hk:k<32):
  Calls Tryz.prog 245 #[.slice A n c,.int .i64 (k:Int)] w (DS (dg 4294967296 (v/2^k)) w):=by
 by_cases h0:k=0
 ·subst h0
  go_enter Tryz.func245,Tryz.ntmps245
  go_wp2_with fail
  go_ret
  exact⟨_,_,_,rfl,by simpa using ha,Below.refl _ _⟩
 have hne:((k:Int)==0)=false:=by rw[beq_eq_false_iff_ne];omega
 obtain⟨e1,e2,e3⟩:=Wh k hk
 have E1:=Lib.hid e1
 clear e1
 go_enter Tryz.func245,Tryz.ntmps245
 go_wp2_with fail
 rw[E1.out]
 refine(uC _ _ _ _ _ _ ha hn e3 e2).mono ?_
 rintro e w1 ⟨A1,n1,c1,rfl,h1,hb1⟩
 go_wp2_with fail
 go_ret
 exact⟨_,_,_,rfl,by rw[cL (by omega)]at h1;exact h1.u32,hb1⟩
set_option maxHeartbeats 400000 in
theorem YM (k:Int) (w:World) (h0:0<k) (hn:k<=2199023255552):
  Calls Tryz.prog 248 #[.slice none 0 0,.int .i64 k] w (rC [] w):=by
 obtain⟨n,rfl⟩:=Int.eq_ofNat_of_zero_le (show 0<=k by omega)
 obtain⟨ht,i,hi,hz,hs,hb,hzs,hp⟩:=vV
 have hi1:Tryz.prog.underlying 3=some (.int .i64):=Tryz.underlying3
 have hrun:=Lib.run_append_nil_zeros (P:=Tryz.prog) w 23 3 23 223 i (.int .u32 0) .i64 .i64 ht hi1 hi hz n (by omega) (by omega) (by omega) (by rw[hb];omega)
 have hc:=grownCap_ge w n 0 223
 have hc2:=grownCap_le_maxLen w n 0 223 (by unfold maxLen;omega)
 unfold maxLen at hc2
 have hn0:¬(n:Int)<0:=by omega
 generalize grownCap w n 0 223=cc at*
 go_enter Tryz.func248,Tryz.ntmps248
 go_wp2_with (at_builtin;refine Lib.wpList_append_run _ rfl (.tmp 20) (.tmp 21) _ _ rfl _ _ rfl rfl _ _ hrun ?_)
 go_ret
 refine⟨_,_,_,rfl,⟨⟨rfl,.inr ⟨w.heap.size,cc,_,rfl,aX _,heap_alloc_new w.drew _,Nat.zero_le _,by unfold maxLen;omega,?_,rfl⟩⟩,Lim.nil⟩,((Below.refl _ _).drew).alloc (aX _) _⟩
 simp[size_zeroCells]
 omega
set_option maxHeartbeats 1000000 in
theorem II (g:Nat) (A1 A2:Option Addr) (n1 c1 n2 c2:Nat) (xs ys:List Nat) (w:World) (hg:g<w.heap.size) (h0:w.cell? ⟨g,0,none⟩=some (.slice A1 n1 c1)) (h1:w.cell? ⟨g,1,none⟩=some (.slice A2 n2 c2))
  (hx:U32 w w.heap.size A1 n1 c1 xs) (hy:U32 w w.heap.size A2 n2 c2 ys) (b1:n1<=1099511627776) (b2:n2<=1099511627776) (hp:0<n1+n2):
  Calls Tryz.prog 243 #[.slice (some ⟨g,0,none⟩) 2 2] w (rC (xs++ys) w):=by
 go_enter Tryz.func243,Tryz.ntmps243
 go_wp2_with fail
 refine wp_loop_rounds 3 ?_
 rw[rounds_succ]
 go_wp2_with fail
 rw[rounds_succ]
 go_wp2_with fail
 rw[rounds_succ]
 go_wp2_with fail
 refine(YM _ _ (by omega) (by omega)).mono ?_
 rintro e w1 ⟨A3,n3,c3,rfl,hO,hb1⟩
 obtain rfl:n3=0:=hO.len.symm
 have k0:=(hb1.cell (p:=⟨g,0,none⟩) hg).trans h0
 have k1:=(hb1.cell (p:=⟨g,1,none⟩) hg).trans h1
 have hz1:=hb1.size
 go_wp2_with fail
 refine wp_loop_rounds 3 ?_
 rw[rounds_succ]
 go_wp2_with (at_builtin;refine uK _ vV rfl (.tmp 31) (.tmp 32) rfl w.heap.size _ 0 [] rfl hO.row w.heap.size A1 n1 c1 (iV xs) rfl (hx.rd.below hb1) (Df xs) (by omega) (by omega) hz1 ?_;intro A4 c4 w2 hO2 hg2 _)
 have hb2:=wC hb1 hO.row hg2 hz1 (aX _)
 have k2:=(hb2.cell (p:=⟨g,1,none⟩) hg).trans h1
 have hz2:=hb2.size
 clear hg2
 have hO4:w2.ownsRow w.heap.size 223 1 (.slice A4 n1 c4) n1 (iV xs):=by simpa using hO2
 rw[rounds_succ]
 go_wp2_with (at_builtin;refine uK _ vV rfl (.tmp 31) (.tmp 32) rfl w.heap.size _ n1 _ rfl hO4 w.heap.size A2 n2 c2 (iV ys) rfl (hy.rd.below hb2) (Df ys) (by omega) (by omega) hz2 ?_;intro A5 c5 w3 hO3 hg3 _)
 have hb3:=wC hb2 hO4 hg3 hz2 (aX _)
 rw[rounds_succ]
 go_wp2_with fail
 go_ret
 exact⟨A5,n1+n2,c5,rfl,⟨by simpa[Gu]using hO3,hx.lim.append hy.lim⟩,hb3⟩
end Go.Proofs.YtimiaildfkimfaaGreatDoor
