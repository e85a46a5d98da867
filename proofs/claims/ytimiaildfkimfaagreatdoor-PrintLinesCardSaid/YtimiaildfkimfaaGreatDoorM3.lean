/- Part 3 of a proof: Av10 to Av17. -/
import Derived.Test.YtimiaildfkimfaaGreatDoorM2
set_option maxRecDepth 100000
set_option linter.unusedVariables false
set_option linter.unusedSimpArgs false
namespace Go.Proofs.YtimiaildfkimfaaGreatDoor
open Go Go.RowKit
mutual
def jH (τ:List Nat):AV->Option AV
 | .t y=>some (.t y)
 | .sl k o n=>match τ[k]? with
  | some t=>some (.sl t o n)
  | none=>none
 | .pt k o=>match τ[k]? with
  | some t=>some (.pt t o)
  | none=>none
 | .ef l o=>some (.ef l o)
 | .fn f a b=>match renL τ a,renL τ b with
  | some a',some b'=>some (.fn f a' b')
  | _,_=>none
def renL (τ:List Nat):List AV->Option (List AV)
 | []=>some []
 | a::l=>match jH τ a,renL τ l with
  | some a',some l'=>some (a'::l')
  | _,_=>none
end
def Ga (τ:List Nat):FV->Option FV
 | .any=>some .any
 | .one a=>match jH τ a with
  | some a'=>some (.one a')
  | none=>none
 | .agg l=>match renL τ l with
  | some l'=>some (.agg l')
  | none=>none
 | .tup _=>none
section
variable {W:World}{N N':Nat->Prop}{cs:List Co}{τ:List Nat}
theorem oB {k t:Nat}(h:τ[k]? =some t):co (τ.map (co cs)) k=co cs t:=by simp[co,h]
mutual
theorem yS (hN:∀b,N b->N' b):∀(a:AV) (a':AV) (u:Value),jH τ a=some a'->AR W N cs a' u->AR W N' (τ.map (co cs)) a u
 | .t y,a',u,h,hr=>by
  simp only[jH,Option.some.injEq]at h
  subst h
  simp only[AR]at hr⊢
  exact lF (fun _ _=>rfl) hN _ _ hr
 | .sl k o n,a',u,h,hr=>by
  simp only[jH]at h
  split at h
  ·rename_i t ht
   simp only[Option.some.injEq]at h
   subst h
   simp only[AR]at hr⊢
   rw[oB ht]
   exact⟨by simpa using(List.getElem?_eq_some_iff.1 ht).1,hr.2⟩
  cases h
 | .pt k o,a',u,h,hr=>by
  simp only[jH]at h
  split at h
  ·rename_i t ht
   simp only[Option.some.injEq]at h
   subst h
   simp only[AR]at hr⊢
   rw[oB ht]
   exact hr
  cases h
 | .ef l o,a',u,h,hr=>by
  simp only[jH,Option.some.injEq]at h
  subst h
  simp only[AR]at hr⊢
  obtain⟨ad,h1,h2,h3⟩:=hr
  exact⟨ad,hN _ h1,FRc_keep (fun _ _=>rfl) hN _ _ _ h1 h2,h3⟩
 | .fn f a b,a',u,h,hr=>by
  simp only[jH]at h
  split at h
  ·rename_i a1 b1 h1 h2
   simp only[Option.some.injEq]at h
   subst h
   simp only[AR]at hr⊢
   obtain⟨us,vs,e,r1,r2⟩:=hr
   exact⟨us,vs,e,ARL_ren hN a a1 us h1 r1,ARL_ren hN b b1 vs h2 r2⟩
  cases h
theorem ARL_ren (hN:∀b,N b->N' b):∀(l:List AV) (l':List AV) (us:List Value),renL τ l=some l'->ARL W N cs l' us->ARL W N' (τ.map (co cs)) l us
 | [],l',us,h,hr=>by
  simp only[renL,Option.some.injEq]at h
  subst h
  simpa[ARL]using hr
 | a::l,l',us,h,hr=>by
  simp only[renL]at h
  split at h
  ·rename_i a1 l1 h1 h2
   simp only[Option.some.injEq]at h
   subst h
   cases us with
   | nil=>simp only[ARL]at hr
   | cons u us=>
    simp only[ARL]at hr⊢
    exact⟨yS hN a a1 u h1 hr.1,ARL_ren hN l l1 us h2 hr.2⟩
  cases h
end
theorem Vn (hN:∀b,N b->N' b){v v':FV}{u:Value}(h:Ga τ v=some v') (hr:bV W N cs v' u):bV W N' (τ.map (co cs)) v u:=by
 cases v with
 | any=>simp[bV,cE]
 | one a=>
  simp only[Ga]at h
  split at h
  ·rename_i a' ha
   simp only[Option.some.injEq]at h
   subst h
   exact yS hN a a' u ha hr
  cases h
 | agg l=>
  simp only[Ga]at h
  split at h
  ·rename_i l' hl
   simp only[Option.some.injEq]at h
   subst h
   obtain⟨us,e,r⟩:=hr
   exact⟨us,e,ARL_ren hN l l' us hl r⟩
  cases h
 | tup l=>simp[Ga]at h
theorem XX (hN:∀b,N b->N' b){a a':AV}{y:VT}(h:jH τ a=some a') (hr:CR W N cs a' y):CR W N' (τ.map (co cs)) a y:=by
 cases a with
 | t z=>
  simp only[jH,Option.some.injEq]at h
  subst h
  simp only[CR]at hr⊢
  exact mG (fun _ _=>rfl) hN _ _ hr
 | sl k o n=>
  have h':=h
  simp only[jH]at h
  split at h
  ·simp only[Option.some.injEq]at h
   subst h
   cases y with
   | w u=>
    simp only[CR]at hr⊢
    exact yS hN _ _ u h' hr
   | s=>simp only[CR]at hr
   | p=>simp only[CR]at hr
  cases h
 | pt k o=>
  have h':=h
  simp only[jH]at h
  split at h
  ·simp only[Option.some.injEq]at h
   subst h
   cases y with
   | w u=>
    simp only[CR]at hr⊢
    exact yS hN _ _ u h' hr
   | s=>simp only[CR]at hr
   | p=>simp only[CR]at hr
  cases h
 | ef l o=>
  have h':=h
  simp only[jH,Option.some.injEq]at h
  subst h
  cases y with
  | w u=>
   simp only[CR]at hr⊢
   exact yS hN _ _ u h' hr
  | s=>simp only[CR]at hr
  | p=>simp only[CR]at hr
 | fn f l l2=>
  have h':=h
  simp only[jH]at h
  split at h
  ·simp only[Option.some.injEq]at h
   subst h
   cases y with
   | w u=>
    simp only[CR]at hr⊢
    exact yS hN _ _ u h' hr
   | s=>simp only[CR]at hr
   | p=>simp only[CR]at hr
  cases h
theorem Ed (hN:∀b,N b->N' b):∀{l l':List AV}{ys:List VT},renL τ l=some l'->bZ W N cs l' ys->bZ W N' (τ.map (co cs)) l ys
 | [],l',ys,h,hr=>by
  simp only[renL,Option.some.injEq]at h
  subst h
  simpa[bZ]using hr
 | a::l,l',ys,h,hr=>by
  simp only[renL]at h
  split at h
  ·rename_i a1 l1 h1 h2
   simp only[Option.some.injEq]at h
   subst h
   cases ys with
   | nil=>simp only[bZ]at hr
   | cons y ys=>
    simp only[bZ]at hr⊢
    exact⟨XX hN h1 hr.1,Ed hN h2 hr.2⟩
  cases h
theorem aBt (l:List Tr):renL τ (l.map .t)=some (l.map .t):=by
 induction l with
 | nil=>rfl
 | cons y l ih=>simp[renL,jH,ih]
end
def bP:List (Nat×FV)->Nat->FV
 | [],_=>.any
 | (j,v)::l,i=>bif Nat.beq i j then v else bP l i
def vT (τ:List Nat) (g:Nat->FV):List (Nat×FV)->Prop
 | []=>True
 | (i,v)::l=>Ga τ v=some (g i)/\vT τ g l
def Md (τ:List Nat) (a:Option Ob) (o:Ob):Prop:=∃l,renL τ o.l=some l/\a=some ⟨o.t,o.z,l⟩
theorem oe {τ:List Nat}{a:Option Ob}{t z:Nat}{l l':List AV}(h:renL τ l=some l') (h2:a=some ⟨t,z,l'⟩):Md τ a ⟨t,z,l⟩:=⟨l',h,h2⟩
theorem aD {τ:List Nat}{a:Option Ob}{t z:Nat}{l:List Tr}(h2:a=some ⟨t,z,l.map .t⟩):Md τ a ⟨t,z,l.map .t⟩:=⟨_,aBt l,h2⟩
def kA (τ0:List Nat) (ob:List (Option Ob)):List Nat->List Ob->Prop
 | [],os=>os=[]
 | _::_,[]=>False
 | t::ts,o::os=>Md τ0 (cR ob t) o/\kA τ0 ob ts os
section
variable {x:Cx}{g g':Nat->FV}{ob ob':List (Option Ob)}{cs cs':List Co}{ts ts':Array Value}{W W':World}
theorem Vo {W:World}{N N':Nat->Prop}{τ:List Nat}(hN:∀b,N b->N' b){u:Value}{i:Nat}(hu:bV W N cs (g i) u):∀{l:List (Nat×FV)},vT τ g l->bV W N' (τ.map (co cs)) (bP l i) u
 | [],_=>by simp[bP,bV,cE]
 | (j,v)::l,h=>by
  unfold bP
  cases hb:Nat.beq i j with
  | true=>
   have:=Nat.eq_of_beq_eq_true hb
   subst this
   exact Vn hN h.1 hu
  | false=>exact Vo hN hu h.2
theorem Me {τ0:List Nat}:∀{ts:List Nat}{os:List Ob},kA τ0 ob ts os->os.length=ts.length
 | [],os,h=>by
  simp only[kA]at h
  simp[h]
 | t::ts,o::os,h=>by
  simp only[kA]at h
  simp[Me h.2]
 | _::_,[],h=>by simp only[kA]at h
theorem Mf {τ0:List Nat}:∀{ts:List Nat}{os:List Ob}{k:Nat}{o:Ob},kA τ0 ob ts os->os[k]? =some o->∃t,ts[k]? =some t/\Md τ0 (cR ob t) o
 | [],os,k,o,h,hk=>by
  simp only[kA]at h
  subst h
  simp at hk
 | t::ts,o'::os,0,o,h,hk=>by
  simp only[kA]at h
  simp at hk
  subst hk
  exact⟨t,rfl,h.1⟩
 | t::ts,o'::os,k+1,o,h,hk=>by
  simp only[kA]at h
  simpa using Mf h.2 (k:=k) (by simpa using hk)
 | _::_,[],_,_,h,_=>by simp only[kA]at h
theorem oC {t z:Nat}(l l':List AV){c:Co}:aQ (some ⟨t,z,l⟩) c=aQ (some ⟨t,z,l'⟩) c:=by
 obtain⟨b,c,ys⟩:=c
 cases b <;> rfl
theorem Mg {τ0:List Nat}(hlen:ob.length=cs.length):∀{ts:List Nat}{os:List Ob},kA τ0 ob ts os->aL (os.map some) (ts.map (co cs))=pick (aL ob cs) ts
 | [],os,h=>by
  simp only[kA]at h
  subst h
  rfl
 | t::ts,o::os,h=>by
  simp only[kA]at h
  obtain⟨⟨l,_,e⟩,h2⟩:=h
  have ih:=Mg hlen h2
  have e1:=cA hlen (dL e)
  unfold aL pick at ih⊢
  unfold aL at e1
  simp only[List.map_cons,List.zipWith_cons_cons,List.filterMap_cons,e1,ih]
  rw[oC o.l l]
 | _::_,[],h=>by simp only[kA]at h
theorem su (τ:List Nat) (h0:∀k,k<x.c0.length->τ[k]? =some k) (live:List (Nat×FV)) (os:List Ob) (hn:τ.Nodup) (h1:vT τ g live) (h2:kA τ ob τ os):Sub x g ob (bP live) (os.map some):=by
 rintro ts W ⟨cs,hR⟩
 have hp:=Mg hR.len h2
 have hL:=(hR.2.pick τ hn).pickS []
 rw[<-hp]at hL
 have hown:∀b∈dO (os.map some) (τ.map (co cs)),b∈dO ob cs:=by
  intro b hb
  unfold dO at hb
  rw[hp]at hb
  obtain⟨r,hr,hbr⟩:=List.mem_flatMap.1 hb
  obtain⟨i,_,hi⟩:=List.mem_filterMap.1 hr
  exact List.mem_flatMap.2 ⟨r,List.mem_of_getElem? hi,hbr⟩
 have hN:∀b,x.fr W ob cs b->x.fr W (os.map some) (τ.map (co cs)) b:=fun b hb=>⟨⟨hb.1.1,fun hm=>hb.1.2 (hown b hm)⟩,hb.2⟩
 refine⟨τ.map (co cs),.of hR.1 hL ⟨by simp[Me h2],fun k o hk=>?_⟩ (fun i hi=>?_) ⟨?_,fun k hk=>?_⟩⟩
 ·have hk':os[k]? =some o:=by
   rw[List.getElem?_map]at hk
   cases hq:os[k]? with
   | none=>rw[hq]at hk;cases hk
   | some o'=>
    rw[hq]at hk
    simp at hk
    rw[hk]
  obtain⟨t,ht,l,hl,e⟩:=Mf h2 hk'
  have h3:=hR.obs.2 t _ (dL e)
  rw[oB ht]
  refine⟨Ed hN hl h3.1,fun hb=>?_⟩
  obtain⟨e1,e2⟩:=h3.2 hb
  dsimp only at e1 e2
  subst e1
  refine⟨?_,e2⟩
  cases hol:o.l with
  | nil=>rfl
  | cons a r=>
   rw[hol]at hl
   simp only[renL]at hl
   split at hl
   ·cases hl
   cases hl
 ·obtain⟨u,e1,e2⟩:=hR.fv hi
  exact⟨u,e1,Vo hN e2 h1⟩
 ·rw[dP]
  rcases Nat.eq_zero_or_pos x.c0.length with h9 | h9
  ·omega
  have:=(List.getElem?_eq_some_iff.1 (h0 (x.c0.length-1) (by omega))).1
  omega
 rw[oB (h0 k hk)]
 exact hR.3.2 k hk
theorem uY {L:List Res}{j:Nat}{r r':Res}(h:L[j]? =some r) (b:Nat):((L.set j r').flatMap Res.S).count b+r.S.count b=(L.flatMap Res.S).count b+r'.S.count b:=by
 obtain⟨hlt,hget⟩:=List.getElem?_eq_some_iff.1 h
 have split:L=L.take j++r::L.drop (j+1):=by rw[<-hget,List.getElem_cons_drop,List.take_append_drop]
 rw[List.set_eq_take_append_cons_drop,if_pos hlt]
 conv=>rhs;rw[split]
 simp only[List.flatMap_append,List.flatMap_cons,List.count_append]
 omega
theorem RelC.recut (h:RelC x g ob cs ts W) (hc:∀b,(dO ob' cs').count b<=(dO ob cs).count b) (hφ:∀r∈aL ob' cs',r.φ W) (ho:(∀b,x.fr W ob cs b->x.fr W ob' cs' b)->Gy W (x.fr W ob' cs') cs' ob') (hs:Same cs cs'):RelC x g ob' cs' ts W/\∀b,x.fr W ob cs b->x.fr W ob' cs' b:=by
 have hin:∀b,b∈dO ob' cs'->b∈dO ob cs:=fun b hb=>List.count_pos_iff.1 (Nat.lt_of_lt_of_le (List.count_pos_iff.2 hb) (hc b))
 have hN:∀b,x.fr W ob cs b->x.fr W ob' cs' b:=fun b hb=>⟨⟨hb.1.1,fun hm=>hb.1.2 (hin b hm)⟩,hb.2⟩
 have hL:Loc x.M x.w W (aL ob' cs') []:=⟨h.2.chg,hφ,fun b hb=>h.2.blk b (hin b hb),List.nodup_iff_count.2 fun b=>Nat.le_trans (hc b) (List.nodup_iff_count.1 h.2.nd b),fun _ h=>by cases h⟩
 refine⟨.of h.1 hL (ho hN) (fun i hi=>?_) (h.3.trans hs),hN⟩
 obtain⟨u,e1,e2⟩:=h.fv hi
 exact⟨u,e1,gC (fun _ _=>rfl) hN hs _ _ e2⟩
theorem uZ {k:Nat}(hk:k<cs.length):cs.set k (co cs k)=cs:=by
 unfold co
 rw[fV hk]
 simp
theorem RelC.drop (h:RelC x g ob cs ts W){k:Nat}{o:Ob}(hk:ob[k]? =some (some o)):RelC x g (ob.set k none) cs ts W/\(∀b,x.fr W ob cs b->x.fr W (ob.set k none) cs b)/\∀b∈(aQ (some o) (co cs k)).S,x.fr W (ob.set k none) cs b:=by
 have hkl:k<cs.length:=by
  have:=(List.getElem?_eq_some_iff.1 hk).1
  have:=h.len
  omega
 have e:aL (ob.set k none) cs=(aL ob cs).set k (aQ none (co cs k)):=by
  have h1:=mZ (ob:=ob) (cs:=cs) (k:=k) (o:=none) (c:=co cs k)
  rwa[uZ hkl]at h1
 have hcnt:=uY (r':=aQ none (co cs k)) (cA h.len hk)
 rw[<-e]at hcnt
 have e0:(aQ none (co cs k)).S=[]:=by cases hb:(co cs k).b <;> simp[aQ]
 simp only[e0,List.count_nil,Nat.add_zero]at hcnt
 obtain⟨m1,m2⟩:=h.recut (ob':=ob.set k none) (cs':=cs) (fun b=>by unfold dO;have:=hcnt b;omega) (fun r hr=>by
  rw[e]at hr
  rcases List.mem_or_eq_of_mem_set hr with hr | rfl
  ·exact h.2.res r hr
  cases hb:(co cs k).b <;> simp[aQ]) (fun hN=>⟨by simp[h.len],fun j o hj=>by
  rw[List.getElem?_set]at hj
  split at hj
  ·split at hj
   ·simp at hj
   cases hj
  have h3:=h.obs.2 j o hj
  exact⟨dI (fun _ _=>rfl) hN .refl _ _ h3.1,h3.2⟩⟩) .refl
 refine⟨m1,m2,fun b hb=>?_⟩
 have hin:b∈(aL ob cs).flatMap Res.S:=List.mem_flatMap.2 ⟨_,List.mem_of_getElem? (cA h.len hk),hb⟩
 obtain⟨q1,q2⟩:=h.2.blk b hin
 refine⟨⟨q2,fun hm=>?_⟩,.inr q1⟩
 have h1:=List.nodup_iff_count.1 h.2.nd b
 have h2:=List.count_pos_iff.2 hm
 have h3:=List.count_pos_iff.2 hb
 have h4:=hcnt b
 omega
inductive FzA (a0:AV) (y:Tr):AV->AV->Prop
 | id {a:AV}:FzA a0 y a a
 | sl:FzA a0 y a0 (.t y)
inductive FzL (a0:AV) (y:Tr):List AV->List AV->Prop
 | nil:FzL a0 y [] []
 | cons {a a':AV}{l l':List AV}(h:FzA a0 y a a') (h':FzL a0 y l l'):FzL a0 y (a::l) (a'::l')
inductive FzF (a0:AV) (y:Tr):FV->FV->Prop
 | one {a a':AV}(h:FzA a0 y a a'):FzF a0 y (.one a) (.one a')
 | agg {l l':List AV}(h:FzL a0 y l l'):FzF a0 y (.agg l) (.agg l')
theorem FzL.ok {a0:AV}{y:Tr}{W:World}{N N':Nat->Prop}{cs:List Co}(key:∀v,AR W N cs a0 v->AR W N' cs (.t y) v) (keep:∀a v,AR W N cs a v->AR W N' cs a v):∀{l l':List AV},FzL a0 y l l'->∀{us:List Value},ARL W N cs l us->ARL W N' cs l' us
 | _,_,.nil,us,h=>by simpa[ARL]using h
 | _,_,.cons ha hl,[],h=>by simp only[ARL]at h
 | _,_,.cons ha hl,u::us,h=>by
  simp only[ARL]at h⊢
  refine⟨?_,FzL.ok key keep hl h.2⟩
  cases ha with
  | id=>exact keep _ _ h.1
  | sl=>exact key _ h.1
theorem FzF.ok {a0:AV}{y:Tr}{W:World}{N N':Nat->Prop}{cs:List Co}(key:∀v,AR W N cs a0 v->AR W N' cs (.t y) v) (keep:∀a v,AR W N cs a v->AR W N' cs a v){f f':FV}(h:FzF a0 y f f'){u:Value}(hu:bV W N cs f u):bV W N' cs f' u:=by
 cases h with
 | one h=>
  simp only[bV,cE]at hu⊢
  cases h with
  | id=>exact keep _ _ hu
  | sl=>exact key _ hu
 | agg h=>
  simp only[bV,cE]at hu⊢
  obtain⟨us,e,h1⟩:=hu
  exact⟨us,e,h.ok key keep h1⟩
theorem Qu {i k:Nat}{a0:AV}{y:Tr}{o:Ob}{fv fv':FV}(hi:Nat.blt i x.n=true) (hg:g i=fv) (ho:cR ob k=some o) (hf:FzF a0 y fv fv') (hR:RelC x g ob cs ts W) (key:(∀b,x.fr W ob cs b->x.fr W (ob.set k none) cs b)->(∀b∈(aQ (some o) (co cs k)).S,x.fr W (ob.set k none) cs b)->∀v,AR W (x.fr W ob cs) cs a0 v->AR W (x.fr W (ob.set k none) cs) cs (.t y) v):RelC x (bG g i fv') (ob.set k none) cs ts W/\∀b,x.fr W ob cs b->x.fr W (ob.set k none) cs b:=by
 have hi:i<x.n:=by simpa[Nat.blt,Nat.lt_iff_add_one_le]using hi
 obtain⟨m1,m2,m3⟩:=hR.drop (dL ho)
 obtain⟨u,e1,e2⟩:=hR.fv hi
 rw[hg]at e2
 have h9:=hf.ok (key m2 m3) (fun a v h=>kJ (fun _ _=>rfl) m2 .refl a v h) e2
 have e3:ts.setIfInBounds i u=ts:=by
  apply Array.ext_getElem?
  intro j
  by_cases hj:i=j
  ·subst hj
   have:i<ts.size:=by rw[hR.1];exact hi
   rw[Array.getElem?_setIfInBounds_self_of_lt this,e1]
  rw[Array.getElem?_setIfInBounds_ne hj]
 have:=m1.put i h9
 rw[e3]at this
 exact⟨this,m2⟩
def Yx (x:Cx) (g:Nat->FV) (ob:List (Option Ob)) (k:Nat) (o:Ob) (a0:AV) (y:Tr):Prop:=∀cs ts W,RelC x g ob cs ts W->(∀b,x.fr W ob cs b->x.fr W (ob.set k none) cs b)->(∀b∈(aQ (some o) (co cs k)).S,x.fr W (ob.set k none) cs b)->∀v,AR W (x.fr W ob cs) cs a0 v->AR W (x.fr W (ob.set k none) cs) cs (.t y) v
theorem Tz {i k:Nat}{a0:AV}{y:Tr}{o:Ob}{fv fv':FV}(hi:Nat.blt i x.n=true) (hg:g i=fv) (ho:cR ob k=some o) (hf:FzF a0 y fv fv') (key:Yx x g ob k o a0 y):Sub x g ob (bG g i fv') (ob.set k none):=fun _ _ ⟨cs,hR⟩=>⟨cs,(Qu hi hg ho hf hR (key _ _ _ hR)).1⟩
theorem Vp {N:Nat->Prop}:∀{l:List Tr}{ys:List VT},bZ W N cs (l.map .t) ys->ORL W N l ys
 | [],ys,h=>by simpa[bZ,ORL]using h
 | y::l,[],h=>by simp only[List.map_cons,bZ]at h
 | y::l,y'::ys,h=>by
  simp only[List.map_cons,bZ,CR]at h
  simp only[ORL]
  exact⟨h.1,Vp h.2⟩
theorem Oz {k t z n:Nat}(t':Nat){l:List Tr}(ho:cR ob k=some ⟨t,z,l.map .t⟩) (hz:l.length=n*z):Yx x g ob k ⟨t,z,l.map .t⟩ (.sl k 0 n) (.s false t' z n l):=fun cs ts W hR m2 m3 u e2=>by
 have hk:=dL ho
 simp only[AR]at e2
 simp only[AR,FR]
 have hcl:=hR.crl hk
 dsimp only at hcl
 cases hbb:(co cs k).b with
 | none=>
  rw[hbb]at e2
  obtain⟨_,rfl,_,rfl⟩:=e2
  exact⟨none,0,rfl,aX _,by omega,by simpa using hz,.inl rfl⟩
 | some b=>
  rw[hbb]at e2
  obtain⟨_,o',c,rfl,h1,h2,h3,_⟩:=e2
  obtain rfl:=h3 (.inr trivial)
  obtain⟨k1,k2,k3⟩:=hR.blk hk hbb
  exact⟨_,c,rfl,h1,h2,hz,.inr ⟨_,rfl,m3 b (by simp[aQ,hbb]),FRc_of_ORL m2 l _ (Vp hcl) k2 (fun b' hb'=>m3 b' (by simp[aQ,hbb,hb'])) b _ _ [] _ k1 rfl⟩⟩
theorem fzg {i k t z n:Nat}{l:List Tr}{fv fv':FV}(hi:Nat.blt i x.n=true) (hg:g i=fv) (ho:cR ob k=some ⟨t,z,l.map .t⟩) (hz:l.length=n*z) (hf:FzF (.sl k 0 n) (.s false t z n l) fv fv'):Sub x g ob (bG g i fv') (ob.set k none):=Tz hi hg ho hf (Oz t ho hz)
theorem fz {i k t z n:Nat}{l:List Tr}(hi:Nat.blt i x.n=true) (hg:g i=.one (.sl k 0 n)) (ho:cR ob k=some ⟨t,z,l.map .t⟩) (hz:l.length=n*z):Sub x g ob (bG g i (.one (.t (.s false t z n l)))) (ob.set k none):=fzg hi hg ho hz (.one .sl)
end
structure Lt where
 t:Nat
 z:Nat
 l:List AV
def Lt.ob (a:Lt):Ob:=⟨a.t,a.z,a.l⟩
mutual
def Cn (n:Nat):AV->Bool
 | .t _=>true
 | .sl k _ _=>Nat.blt k n
 | .pt k _=>Nat.blt k n
 | .ef _ _=>true
 | .fn _ a b=>refCs n a&&refCs n b
def refCs (n:Nat):List AV->Bool
 | []=>true
 | a::l=>Cn n a&&refCs n l
end
section
variable {W:World}{N:Nat->Prop}{cs cs':List Co}{m:Nat}
def xK (m:Nat) (cs cs':List Co):Prop:=∀k,k<m->k<cs'.length/\co cs' k=co cs k
mutual
theorem DB (h:xK m cs cs'):∀(a:AV) (u:Value),Cn m a=true->AR W N cs a u->AR W N cs' a u
 | .t y,u,_,hu=>by simpa only[AR]using hu
 | .sl k o n,u,hr,hu=>by
  simp only[Cn,Nat.blt_eq]at hr
  simp only[AR]at hu⊢
  rw[(h k hr).2]
  exact⟨(h k hr).1,hu.2⟩
 | .pt k o,u,hr,hu=>by
  simp only[Cn,Nat.blt_eq]at hr
  simp only[AR]at hu⊢
  rw[(h k hr).2]
  exact hu
 | .ef l o,u,_,hu=>by simpa only[AR]using hu
 | .fn f a b,u,hr,hu=>by
  simp only[Cn,Bool.and_eq_true]at hr
  simp only[AR]at hu⊢
  obtain⟨us,vs,e,h1,h2⟩:=hu
  exact⟨us,vs,e,ARL_cut h a us hr.1 h1,ARL_cut h b vs hr.2 h2⟩
theorem ARL_cut (h:xK m cs cs'):∀(l:List AV) (us:List Value),refCs m l=true->ARL W N cs l us->ARL W N cs' l us
 | [],us,_,hu=>by simpa only[ARL]using hu
 | a::l,[],_,hu=>by simp only[ARL]at hu
 | a::l,u::us,hr,hu=>by
  simp only[refCs,Bool.and_eq_true]at hr
  simp only[ARL]at hu⊢
  exact⟨DB h a u hr.1 hu.1,ARL_cut h l us hr.2 hu.2⟩
end
theorem DC (h:xK m cs cs'){a:AV}{y:VT}(hr:Cn m a=true) (hu:CR W N cs a y):CR W N cs' a y:=by
 cases a with
 | t x=>simpa only[CR]using hu
 | _=>
  cases y with
  | w u=>
   simp only[CR]at hu⊢
   exact DB h _ u hr hu
  | _=>simp only[CR]at hu
theorem Vq (h:xK m cs cs'):∀{l:List AV}{ys:List VT},refCs m l=true->bZ W N cs l ys->bZ W N cs' l ys
 | [],ys,_,hu=>by simpa only[bZ]using hu
 | a::l,[],_,hu=>by simp only[bZ]at hu
 | a::l,y::ys,hr,hu=>by
  simp only[refCs,Bool.and_eq_true]at hr
  simp only[bZ]at hu⊢
  exact⟨DC h hr.1 hu.1,Vq h hr.2 hu.2⟩
end
def bR (lent:List Lt):List (Option Ob):=lent.map fun a=>some a.ob
def Bf (W:World) (N:Nat->Prop) (cs:List Co):FV->Value->List VT->Prop
 | .one a,v,y=>∃z,y=[z]/\v=z.val/\CR W N cs a z
 | .agg l,v,y=>v=.agg (y.map VT.val).toArray/\bZ W N cs l y
 | _,_,_=>False
def Cp (W:World) (N:Nat->Prop) (cs:List Co):List FV->List Value->List VT->Prop
 | [],vs,y=>vs=[]/\y=[]
 | a::l,vs,y=>∃v vs' y1 y2,vs=v::vs'/\y=y1++y2/\Bf W N cs a v y1/\Cp W N cs l vs' y2
def RO (W:World) (N:Nat->Prop) (cs:List Co):FV->Value->List VT->Prop
 | .tup l,v,y=>∃vs,v=.tuple vs.toArray/\Cp W N cs l vs y
 | r,v,y=>Bf W N cs r v y
def gG (y:List VT):Res where
 S:=VT.fpL y
 φ:=fun W=>VT.okL W y
 loc:=fun W W' h hk=>VT.okL_keep _ h hk
section
variable {W W':World}{N N':Nat->Prop}{cs cs':List Co}
theorem Gb (hk:∀b,N b->W'.heap[b]? =W.heap[b]?) (hN:∀b,N b->N' b) (hc:Same cs cs'):∀{r:FV}{v:Value}{y:List VT},Bf W N cs r v y->Bf W' N' cs' r v y
 | .one a,v,y,⟨z,h1,h2,h3⟩=>⟨z,h1,h2,Jm hk hN hc a z h3⟩
 | .agg l,v,y,⟨h1,h2⟩=>⟨h1,dI hk hN hc l y h2⟩
 | .any,_,_,h=>h.elim
 | .tup _,_,_,h=>h.elim
theorem Qv (hk:∀b,N b->W'.heap[b]? =W.heap[b]?) (hN:∀b,N b->N' b) (hc:Same cs cs'):∀{r:List FV}{v:List Value}{y:List VT},Cp W N cs r v y->Cp W' N' cs' r v y
 | [],v,y,h=>h
 | a::l,v,y,⟨v1,vs,y1,y2,h1,h2,h3,h4⟩=>⟨v1,vs,y1,y2,h1,h2,Gb hk hN hc h3,Qv hk hN hc h4⟩
theorem vA (hk:∀b,N b->W'.heap[b]? =W.heap[b]?) (hN:∀b,N b->N' b) (hc:Same cs cs'):∀{r:FV}{v:Value}{y:List VT},RO W N cs r v y->RO W' N' cs' r v y
 | .one a,v,y,h=>Gb (r:=.one a) hk hN hc h
 | .agg l,v,y,h=>Gb (r:=.agg l) hk hN hc h
 | .any,_,_,h=>h.elim
 | .tup l,v,y,⟨vs,h1,h2⟩=>⟨vs,h1,Qv hk hN hc h2⟩
end
def DD (lent:List Lt) (cs:List Co) (args:List FV) (us:List Value):Sh where
 p:=fun W N=>Gy W N cs (bR lent)/\dM W N cs args us
 mono:=fun W N N' hN h=>⟨⟨h.1.1,fun k o hk=>⟨dI (fun _ _=>rfl) hN .refl _ _ (h.1.2 k o hk).1,(h.1.2 k o hk).2⟩⟩,nR (fun _ _=>rfl) hN .refl _ _ h.2⟩
 keep:=fun W W' N hk h=>⟨⟨h.1.1,fun k o he=>⟨dI hk (fun _ h=>h) .refl _ _ (h.1.2 k o he).1,(h.1.2 k o he).2⟩⟩,nR hk (fun _ h=>h) .refl _ _ h.2⟩
def shE (fresh:Bool) (lent:List Lt) (cs:List Co) (r:FV) (v:Value) (y:List VT):Sh where
 p:=fun W N=>Gy W (fun b=>fresh=false/\N b) cs (bR lent)/\RO W (fun b=>fresh=false/\N b) cs r v y
 mono:=fun W N N' hN h=>⟨⟨h.1.1,fun k o hk=>⟨dI (fun _ _=>rfl) (fun b h=>⟨h.1,hN b h.2⟩) .refl _ _ (h.1.2 k o hk).1,(h.1.2 k o hk).2⟩⟩,vA (fun _ _=>rfl) (fun b h=>⟨h.1,hN b h.2⟩) .refl h.2⟩
 keep:=fun W W' N hk h=>⟨⟨h.1.1,fun k o he=>⟨dI (fun b h=>hk b h.2) (fun _ h=>h) .refl _ _ (h.1.2 k o he).1,(h.1.2 k o he).2⟩⟩,vA (fun b h=>hk b h.2) (fun _ h=>h) .refl h.2⟩
def Ended (fresh:Bool) (N:Nat->Prop) (M:List Nat) (w:World) (lent:List Lt) (cs:List Co) (R:List Lt->FV->Prop) (e:Ending) (W:World):Prop:=
 ∃v lent' cs' r y,e=.returned v/\R lent' r/\lent'.length=lent.length/\(∀(i:Nat) (a b:Lt),lent[i]? =some a->lent'[i]? =some b->b.t=a.t/\b.z=a.z)/\cs'.length=cs.length/\Same cs cs'/\
  Loc M w W (aL (bR lent') cs'++[gG y]) [(shE fresh lent' cs' r v y).on (fun b=>N b\/b∈M\/w.heap.size<=b)]
def aE (fresh:Bool) (P:Program) (f:FuncId) (lent:List Lt) (args:List FV) (R:List Lt->FV->Prop):Prop:=
 ∀(N:Nat->Prop) (w:World) (cs:List Co) (us:List Value),Loc ((aL (bR lent) cs).flatMap Res.S) w w (aL (bR lent) cs) [(DD lent cs args us).on N]->
  Calls P f us.toArray w (Ended fresh N ((aL (bR lent) cs).flatMap Res.S) w lent cs R)
def oD:Nat->List FV->List (Nat×FV)
 | _,[]=>[]
 | i,a::l=>(i,a)::oD (i+1) l
theorem Gc {W:World}{N:Nat->Prop}{cs:List Co}:∀{l:List FV}{us:List Value}{j i:Nat},dM W N cs l us->(∀u,us[i]? =some u->bV W N cs (bP (oD j l) (j+i)) u)
 | [],_,_,_,_=>fun u _=>by simp[oD,bP,bV,cE]
 | a::l,[],_,_,h=>by simp only[dM]at h
 | a::l,u::us,j,0,h=>fun v hv=>by
  simp only[dM]at h
  simp at hv
  subst hv
  simp only[oD,bP,Nat.add_zero,Nat.beq_refl,cond_true]
  exact gH h.1
 | a::l,u::us,j,i+1,h=>fun v hv=>by
  simp only[dM]at h
  have hb:Nat.beq (j+(i+1)) j=false:=by
   cases hq:Nat.beq (j+(i+1)) j
   ·rfl
   have:=Nat.eq_of_beq_eq_true hq
   omega
  simp only[oD,bP,hb,cond_false]
  have:=Gc (j:=j+1) (i:=i) h.2 v (by simpa using hv)
  rwa[show j+1+i=j+(i+1) by omega]at this
theorem Gd:∀{l:List FV}{j i:Nat},l.length+j<=i->bP (oD j l) i=.any
 | [],_,_,_=>rfl
 | a::l,j,i,h=>by
  simp only[List.length_cons]at h
  have hb:Nat.beq i j=false:=by
   cases hq:Nat.beq i j
   ·rfl
   have:=Nat.eq_of_beq_eq_true hq
   omega
  simp only[oD,bP,hb,cond_false]
  exact Gd (j:=j+1) (by omega)
theorem yT {W:World}{N:Nat->Prop}{cs:List Co}:∀{l:List FV}{us:List Value},dM W N cs l us->us.length=l.length
 | [],us,h=>by
  simp only[dM]at h
  simp[h]
 | a::l,u::us,h=>by
  simp only[dM]at h
  simp[yT h.2]
 | _::_,[],h=>by simp only[dM]at h
inductive Pk (ob:List (Option Ob)) (m:Nat):AV->AV->List Nat->Prop
 | rf {a:AV}(h:Cn m a=true) (hr:rL a=true):Pk ob m a a []
 | id {y:Tr}(h:rL (.t y)=true):Pk ob m (.t y) (.t y) []
 | sl {k n t z:Nat}{l:List AV}{trs:List Tr}(h:cR ob k=some ⟨t,z,l⟩) (hz:Nat.beq z 0=false) (hl:l.take (n*z)=trs.map .t) (hn:trs.length=n*z):Pk ob m (.sl k 0 n) (.t (.s true t z n trs)) [k]
 | nil {t z:Nat}:Pk ob m (.t (.v (.slice none 0 0))) (.t (.s true t z 0 [])) []
 | nilf {t z:Nat}:Pk ob m (.t (.v (.slice none 0 0))) (.t (.s false t z 0 [])) []
 | pt {k t:Nat}{trs:List Tr}(h:cR ob k=some ⟨t,0,trs.map .t⟩):Pk ob m (.pt k 0) (.t (.p true t trs)) [k]
inductive PkL (ob:List (Option Ob)) (m:Nat):List AV->List AV->List Nat->Prop
 | nil:PkL ob m [] [] []
 | cons {a a':AV}{l l':List AV}{k ks:List Nat}(h:Pk ob m a a' k) (h':PkL ob m l l' ks):PkL ob m (a::l) (a'::l') (k++ks)
theorem PkL.read (ob:List (Option Ob)){m:Nat}:∀{l:List Tr},fQ (l.map .t)=true->PkL ob m (l.map .t) (l.map .t) []
 | [],_=>.nil
 | y::l,h=>by
  simp only[List.map_cons,fQ,Bool.and_eq_true]at h
  exact .cons (k:=[]) (.id h.1) (PkL.read ob h.2)
inductive PkF (ob:List (Option Ob)) (m:Nat):FV->FV->List Nat->Prop
 | one {a a':AV}{k:List Nat}(h:Pk ob m a a' k):PkF ob m (.one a) (.one a') k
 | agg {l l':List AV}{k:List Nat}(h:PkL ob m l l' k):PkF ob m (.agg l) (.agg l') k
inductive PkT (ob:List (Option Ob)) (m:Nat):List FV->List FV->List Nat->Prop
 | nil:PkT ob m [] [] []
 | cons {a a':FV}{l l':List FV}{k ks:List Nat}(h:PkF ob m a a' k) (h':PkT ob m l l' ks):PkT ob m (a::l) (a'::l') (k++ks)
section
variable {x:Cx}{g g':Nat->FV}{ob ob':List (Option Ob)}{cs cs':List Co}{ts ts':Array Value}{W W':World}
theorem Ee {N:Nat->Prop}:∀{l:List Tr}{ys:List VT},bZ W N cs (l.map .t) ys->ORL W N l ys
 | [],ys,h=>by simpa[bZ,ORL]using h
 | y::l,[],h=>by simp only[List.map_cons,bZ]at h
 | y::l,y'::ys,h=>by
  simp only[List.map_cons,bZ,CR]at h
  simp only[ORL]
  exact⟨h.1,Ee h.2⟩
theorem Ki {N:Nat->Prop}:∀{l:List Tr}{ys:List VT},ORL W N l ys->bZ W N cs (l.map .t) ys
 | [],ys,h=>by simpa[bZ,ORL]using h
 | y::l,[],h=>by simp only[ORL]at h
 | y::l,y'::ys,h=>by
  simp only[ORL]at h
  simp only[List.map_cons,bZ,CR]
  exact⟨h.1,Ki h.2⟩
theorem Ge:∀(l:List VT) (n:Nat),(VT.fpL (l.take n)).Sublist (VT.fpL l)
 | [],n=>by simp
 | y::l,0=>by simp[VT.fpL]
 | y::l,n+1=>by
  simp only[List.take_succ_cons,VT.fpL]
  exact List.Sublist.append (List.Sublist.refl _) (Ge l n)
theorem qZ (l:List VT) (n:Nat):(l.take n).map VT.val++(l.drop n).map VT.val=l.map VT.val:=by
 rw[<-List.map_append,List.take_append_drop]
theorem Pk.ok {m:Nat}{N':Nat->Prop}(hcs:xK m cs cs') (hR:RelC x g ob cs ts W) (hN:∀b,x.fr W ob cs b->N' b){a a':AV}{ks:List Nat}(h:Pk ob m a a' ks){u:Value}(hu:AR W (x.fr W ob cs) cs a u):
  ∃y,u=y.val/\CR W N' cs' a' y/\y.ok W/\y.fp.Sublist (ks.flatMap fun k=>(aQ (cR ob k) (co cs k)).S):=by
 cases h with
 | rf h hr=>
  have h1:=DC hcs h (Yt hu hr)
  exact⟨.w u,rfl,Jm (fun _ _=>rfl) hN .refl _ _ h1,by simp[VT.ok],by simp[VT.fp]⟩
 | id h=>
  have h1:=Yt (cs:=cs) hu h
  refine⟨.w u,rfl,?_,by simp[VT.ok],by simp[VT.fp]⟩
  simp only[CR]at h1⊢
  exact mG (fun _ _=>rfl) hN _ _ h1
 | nil=>
  simp only[AR,FR]at hu
  subst hu
  refine⟨.w (.slice none 0 0),rfl,?_,by simp[VT.ok],by simp[VT.fp]⟩
  simp only[CR,OR]
  exact .inl ⟨trivial,trivial,trivial,trivial⟩
 | nilf=>
  simp only[AR,FR]at hu
  subst hu
  refine⟨.w (.slice none 0 0),rfl,?_,by simp[VT.ok],by simp[VT.fp]⟩
  simp[CR,OR,FR]
  exact⟨none,0,⟨rfl,rfl⟩,by omega⟩
 | @sl k n t z l trs h hz hl hn=>
  have hk:=dL h
  have hcl:=hR.crl hk
  have hz0:z≠0:=fun e=>by subst e;simp at hz
  have hl':l.length≥n*z:=by
   have:=congrArg List.length hl
   simp at this
   omega
  have ho:ORL W N' trs ((co cs k).l.take (n*z)):=by
   have:=mY (n*z) hcl
   dsimp only at this
   rw[hl]at this
   exact ORL_keep (fun _ _=>rfl) hN _ _ (Ee this)
  simp only[AR]at hu
  cases hb:(co cs k).b with
  | none=>
   rw[hb]at hu
   obtain⟨_,rfl,_,rfl⟩:=hu
   refine⟨.w (.slice none 0 0),rfl,?_,by simp[VT.ok],by simp[VT.fp]⟩
   simp only[CR,OR]
   refine .inl ⟨trivial,trivial,?_,trivial⟩
   simpa using hn
  | some b=>
   rw[hb]at hu
   obtain⟨_,o',c,rfl,h1,h2,h9,h3⟩:=hu
   obtain rfl:=h9 (.inr trivial)
   obtain⟨⟨rest,k1,k1l⟩,k2,k3⟩:=hR.blk hk hb
   have hc:=h3 trivial
   subst hc
   refine⟨.s b (co cs k).c t z n ((co cs k).l.take (n*z)),rfl,?_,?_,?_⟩
   ·simp only[CR,OR]
    exact⟨trivial,trivial,trivial,trivial,ho⟩
   ·simp only[VT.ok]
    refine⟨⟨((co cs k).l.drop (n*z)).map VT.val++rest,?_,?_⟩,h1,k3,by rw[Di ho,hn],Am _ _ k2⟩
    ·rw[<-List.append_assoc,qZ]
     exact k1
    rw[<-List.append_assoc,qZ,k1l]
    dsimp only
    rw[hz,cond_false]
   simp only[VT.fp,List.flatMap_cons,List.flatMap_nil,List.append_nil,h,aQ,hb]
   exact(Ge _ _).cons_cons b
 | @pt k t trs h=>
  have hk:=dL h
  have hcl:=hR.crl hk
  simp only[AR]at hu
  obtain⟨b,hb,rfl⟩:=hu
  obtain⟨⟨rest,k1,k1l⟩,k2,k3⟩:=hR.blk hk hb
  refine⟨.p b t (co cs k).l,rfl,?_,?_,?_⟩
  ·simp only[CR,OR]
   exact⟨trivial,trivial,ORL_keep (fun _ _=>rfl) hN _ _ (Ee hcl)⟩
  ·simp only[VT.ok]
   exact⟨⟨rest,k1,by rw[k1l];rfl⟩,k2⟩
  simp only[VT.fp,List.flatMap_cons,List.flatMap_nil,List.append_nil,h,aQ,hb]
  exact List.Sublist.refl _
theorem PkL.ok {m:Nat}{N':Nat->Prop}(hcs:xK m cs cs') (hR:RelC x g ob cs ts W) (hN:∀b,x.fr W ob cs b->N' b):∀{l l':List AV}{ks:List Nat},PkL ob m l l' ks->∀{us:List Value},ARL W (x.fr W ob cs) cs l us->
  ∃ys:List VT,us=ys.map VT.val/\bZ W N' cs' l' ys/\VT.okL W ys/\(VT.fpL ys).Sublist (ks.flatMap fun k=>(aQ (cR ob k) (co cs k)).S)
 | _,_,_,.nil,us,hu=>by
  simp only[ARL]at hu
  exact⟨[],by simp[hu],by simp[bZ],by simp[VT.okL],by simp[VT.fpL]⟩
 | _,_,_,.cons h h',[],hu=>by simp only[ARL]at hu
 | _,_,_,.cons h h',u::us,hu=>by
  simp only[ARL]at hu
  obtain⟨y,e1,e2,e3,e4⟩:=h.ok hcs hR hN hu.1
  obtain⟨ys,f1,f2,f3,f4⟩:=PkL.ok hcs hR hN h' hu.2
  refine⟨y::ys,by simp[e1,f1],by simp only[bZ];exact⟨e2,f2⟩,by simp only[VT.okL];exact⟨e3,f3⟩,?_⟩
  simp only[VT.fpL,List.flatMap_append]
  exact e4.append f4
theorem PkF.ok {m:Nat}{N':Nat->Prop}(hcs:xK m cs cs') (hR:RelC x g ob cs ts W) (hN:∀b,x.fr W ob cs b->N' b){r r':FV}{ks:List Nat}(h:PkF ob m r r' ks){u:Value}(hu:cE W (x.fr W ob cs) cs r u):
  ∃ys:List VT,Bf W N' cs' r' u ys/\VT.okL W ys/\(VT.fpL ys).Sublist (ks.flatMap fun k=>(aQ (cR ob k) (co cs k)).S):=by
 cases h with
 | one h=>
  obtain⟨y,e1,e2,e3,e4⟩:=h.ok hcs hR hN hu
  exact⟨[y],⟨y,rfl,e1,e2⟩,by simp only[VT.okL];exact⟨e3,trivial⟩,by simpa[VT.fpL]using e4⟩
 | agg h=>
  obtain⟨us,rfl,hu⟩:=hu
  obtain⟨ys,f1,f2,f3,f4⟩:=h.ok hcs hR hN hu
  exact⟨ys,⟨by rw[f1],f2⟩,f3,f4⟩
theorem PkT.ok {m:Nat}{N':Nat->Prop}(hcs:xK m cs cs') (hR:RelC x g ob cs ts W) (hN:∀b,x.fr W ob cs b->N' b):∀{r r':List FV}{ks:List Nat},PkT ob m r r' ks->∀{us:List Value},dM W (x.fr W ob cs) cs r us->
  ∃ys:List VT,Cp W N' cs' r' us ys/\VT.okL W ys/\(VT.fpL ys).Sublist (ks.flatMap fun k=>(aQ (cR ob k) (co cs k)).S)
 | _,_,_,.nil,us,hu=>by
  simp only[dM]at hu
  exact⟨[],⟨hu,rfl⟩,by simp[VT.okL],by simp[VT.fpL]⟩
 | _,_,_,.cons h h',[],hu=>by simp only[dM]at hu
 | _,_,_,.cons h h',u::us,hu=>by
  simp only[dM]at hu
  obtain⟨y,e2,e3,e4⟩:=h.ok hcs hR hN hu.1
  obtain⟨ys,f2,f3,f4⟩:=PkT.ok hcs hR hN h' hu.2
  refine⟨y++ys,⟨u,us,y,ys,rfl,rfl,e2,f2⟩,(sG _ _).2 ⟨e3,f3⟩,?_⟩
  rw[oO,List.flatMap_append]
  exact e4.append f4
end
mutual
def qQ:Tr->Prop
 | .v _=>True
 | .s o _ _ n l=>(o=true/\NoFrL l)\/(o=false/\n=0)
 | .p o _ l=>o=true/\NoFrL l
 | .f _ _ _=>False
 | .a _=>False
def NoFrL:List Tr->Prop
 | []=>True
 | y::l=>qQ y/\NoFrL l
end
mutual
theorem Qw {W:World}{N N':Nat->Prop}:∀(x:Tr) (y:VT),qQ x->OR W N x y->OR W N' x y
 | .v x,y,_,h=>by simpa[OR]using h
 | .s o t z n l,.w u,hn,h=>by
  simp only[OR]at*
  rcases h with h | ⟨rfl,h⟩
  ·exact .inl h
  simp only[qQ]at hn
  rcases hn with⟨hn,_⟩ | ⟨_,rfl⟩
  ·cases hn
  refine .inr ⟨rfl,?_⟩
  simp only[FR]at*
  obtain⟨A,c,h1,h2,h3,h4,_⟩:=h
  exact⟨A,c,h1,h2,h3,h4,.inl trivial⟩
 | .s o t z n l,.s _ _ _ _ _ l',hn,h=>by
  simp only[OR]at*
  simp only[qQ]at hn
  rcases hn with⟨_,hn⟩ | ⟨rfl,_⟩
  ·exact⟨h.1,h.2.1,h.2.2.1,h.2.2.2.1,ORL_clean l l' hn h.2.2.2.2⟩
  cases h.1
 | .s ..,.p ..,_,h=>by simp only[OR]at h
 | .p o t l,.w u,hn,h=>by
  simp only[OR]at h
  simp only[qQ]at hn
  rw[hn.1]at h
  cases h.1
 | .p o t l,.p _ _ l',hn,h=>by
  simp only[OR]at*
  simp only[qQ]at hn
  exact⟨h.1,h.2.1,ORL_clean l l' hn.2 h.2.2⟩
 | .p ..,.s ..,_,h=>by simp only[OR]at h
 | .f ..,y,hn,h | .a ..,y,hn,h=>by simp only[qQ]at hn
theorem ORL_clean {W:World}{N N':Nat->Prop}:∀(l:List Tr) (l':List VT),NoFrL l->ORL W N l l'->ORL W N' l l'
 | [],l',_,h=>by simpa[ORL]using h
 | x::l,y::l',hn,h=>by
  simp only[ORL]at*
  simp only[NoFrL]at hn
  exact⟨Qw x y hn.1 h.1,ORL_clean l l' hn.2 h.2⟩
 | _::_,[],_,h=>by simp only[ORL]at h
end
def wF:AV->Prop
 | .t y=>qQ y
 | .sl _ _ _=>True
 | .pt _ _=>True
 | _=>False
def nT:List AV->Prop
 | []=>True
 | a::l=>wF a/\nT l
def sZ:FV->Prop
 | .one a=>wF a
 | .agg l=>nT l
 | _=>False
def Is:List FV->Prop
 | []=>True
 | a::l=>sZ a/\Is l
def nN:FV->Prop
 | .tup l=>Is l
 | v=>sZ v
section
variable {W:World}{N N':Nat->Prop}{cs cs':List Co}
theorem Qx:∀{a:AV}{y:VT},wF a->CR W N cs a y->CR W N' cs a y
 | .t x,y,hn,h=>by
  simp only[CR]at*
  exact Qw x y hn h
 | .sl ..,.w u,_,h | .pt ..,.w u,_,h=>by simpa only[CR,AR]using h
 | .sl ..,.s ..,_,h | .sl ..,.p ..,_,h | .pt ..,.s ..,_,h | .pt ..,.p ..,_,h=>by simp only[CR]at h
theorem Cq:∀{l:List AV}{ys:List VT},nT l->bZ W N cs l ys->bZ W N' cs l ys
 | [],ys,_,h=>by simpa[bZ]using h
 | a::l,[],_,h=>by simp only[bZ]at h
 | a::l,y::ys,hn,h=>by
  simp only[bZ]at*
  simp only[nT]at hn
  exact⟨Qx hn.1 h.1,Cq hn.2 h.2⟩
theorem Cr:∀{r:FV}{v:Value}{y:List VT},sZ r->Bf W N cs r v y->Bf W N' cs r v y
 | .one a,v,y,hn,⟨z,h1,h2,h3⟩=>⟨z,h1,h2,Qx hn h3⟩
 | .agg l,v,y,hn,⟨h1,h2⟩=>⟨h1,Cq hn h2⟩
theorem Mh:∀{r:List FV}{v:List Value}{y:List VT},Is r->Cp W N cs r v y->Cp W N' cs r v y
 | [],v,y,_,h=>h
 | a::l,v,y,hn,⟨v1,vs,y1,y2,h1,h2,h3,h4⟩=>by
  simp only[Is]at hn
  exact⟨v1,vs,y1,y2,h1,h2,Cr hn.1 h3,Mh hn.2 h4⟩
theorem Qy:∀{r:FV}{v:Value}{y:List VT},nN r->RO W N cs r v y->RO W N' cs r v y
 | .one a,v,y,hn,h=>Cr (r:=.one a) hn h
 | .agg l,v,y,hn,h=>Cr (r:=.agg l) hn h
 | .tup l,v,y,hn,⟨vs,h1,h2⟩=>⟨vs,h1,Mh hn h2⟩
theorem DE {r:FV}{v:Value}{y:List VT}(h:Bf W N cs r v y):RO W N cs r v y:=by
 cases r <;> first | exact h | exact h.elim
end
def sH (T:List (Nat×TI)) (n:Nat) (g:Nat->FV) (ob:List (Option Ob)):List ResultVar->Option (List FV)
 | []=>some []
 | .tmp t::l=>match Nat.blt t n,sH T n g ob l with
  | true,some r=>some (g t::r)
  | _,_=>none
 | .cell t ty::l=>match bX T ty,sH T n g ob l with
  | some i,some r=>match yQ ob i (lk n g (.tmp t))with
   | some (_,v)=>some (v::r)
   | none=>none
  | _,_=>none
def Mi (ob:List (Option Ob)) (m:Nat) (rs:List FV) (r:FV) (ks:List Nat):Prop:=(∃v,rs=[v]/\PkF ob m v r ks)\/(rs.length≠1/\∃l,r=.tup l/\PkT ob m rs l ks)
structure EndA (x:Cx) (T:List (Nat×TI)) (rv:List ResultVar) (fresh:Bool) (lent:List Lt) (R:List Lt->FV->Prop) (g:Nat->FV) (ob:List (Option Ob)) (rs:List FV) (r:FV) (ks:List Nat) (lent':List Lt):Prop where
 res:sH T x.n g ob rv=some rs
 pk:Mi ob lent.length rs r ks
 nd:ks.Nodup
 far:∀k∈ks,lent.length<=k
 len:lent'.length=lent.length
 ty:∀(i:Nat) (a b:Lt),lent[i]? =some a->lent'[i]? =some b->b.t=a.t/\b.z=a.z
 obs:∀(i:Nat) (a:Lt),lent'[i]? =some a->cR ob i=some a.ob
 refs:∀a∈lent',refCs lent.length a.l=true
 clean:fresh=true->nN r/\∀a∈lent',nT a.l
 post:R lent' r
def rA (x:Cx) (T:List (Nat×TI)) (rv:List ResultVar) (fresh:Bool) (lent:List Lt) (R:List Lt->FV->Prop):Post
 | .ret,g,ob | .normal,g,ob=>∃rs r ks lent',EndA x T rv fresh lent R g ob rs r ks lent'
 | _,_,_=>False
section
variable {x:Cx}{g g':Nat->FV}{ob ob':List (Option Ob)}{cs cs':List Co}{ts ts':Array Value}{W W':World}{T:List (Nat×TI)}
def Qz (P:Program) (ts:Array Value) (w:World):List ResultVar->List Value->Prop
 | [],vs=>vs=[]
 | _::_,[]=>False
 | r::rs,v::vs=>RV P ts w r v/\Qz P ts w rs vs
def yU (ts:Array Value):ResultVar->Sem Value
 | .tmp t=>pure (ts.getD t undef)
 | .cell a t=>do loadVar t (<-asAddr (ts.getD a undef))
theorem DF {P:Program}{r:ResultVar}{v:Value}(h:RV P ts W r v):(yU ts r).run P W=.ok v W:=by
 cases r with
 | tmp t=>
  have h1:ts[t]? =some v:=h
  simp[yU,h1]
 | cell t ty=>
  obtain⟨ad,e1,e2⟩:=h
  simp[yU,e1,asAddr,e2]
theorem Vr {P:Program}:∀{rs:List ResultVar}{vs:List Value},Qz P ts W rs vs->(rs.mapM (yU ts)).run P W=.ok vs W
 | [],vs,h=>by
  simp only[Qz]at h
  subst h
  rfl
 | r::rs,[],h=>by simp only[Qz]at h
 | r::rs,v::vs,h=>by
  simp only[Qz]at h
  rw[List.mapM_cons]
  simp only[Sem.run_bind,DF h.1,Result.andThen_ok,Vr h.2,Sem.run_pure]
theorem Ez {P:Program}{fn:Func}{vs:List Value}(h:Qz P ts W fn.results.toList vs):(results fn ts).run P W=.ok (if h:vs.toArray.size=1 then vs.toArray[0]else .tuple vs.toArray) W:=by
 have h2:(fn.results.mapM (yU ts)).run P W=.ok vs.toArray W:=by
  rw[Array.mapM_eq_mapM_toList,Sem.run_map,Vr h]
  rfl
 have e:results fn ts=(do
   let vs<-fn.results.mapM (yU ts)
   pure (if h:vs.size=1 then vs[0]else .tuple vs)):=by
  unfold results
  congr 1
 rw[e,Sem.run_bind,h2,Result.andThen_ok,Sem.run_pure]
theorem sV (hT:cH x.P T) (hR:RelC x g ob cs ts W):∀{rs:List ResultVar}{fs:List FV},sH T x.n g ob rs=some fs->(∀v∈fs,∀l,v≠.tup l)->∃us,Qz x.P ts W rs us/\dM W (x.fr W ob cs) cs fs us
 | [],fs,h,_=>by
  simp[sH]at h
  subst h
  exact⟨[],rfl,rfl⟩
 | .tmp t::rs,fs,h,hv=>by
  unfold sH at h
  split at h
  ·rename_i r hb hr
   simp at h
   subst h
   have ht:t<x.n:=by simpa[Nat.blt,Nat.lt_iff_add_one_le]using hb
   obtain⟨us,h1,h2⟩:=sV hT hR hr (fun v hm=>hv v (List.mem_cons_of_mem _ hm))
   obtain⟨u,e1,e2⟩:=hR.fv ht
   refine⟨u::us,⟨e1,h1⟩,?_,h2⟩
   cases hg:g t with
   | tup l=>exact absurd hg (hv _ (by simp) l)
   | any=>trivial
   | one a=>rw[hg]at e2;exact e2
   | agg l=>rw[hg]at e2;exact e2
  cases h
 | .cell t ty::rs,fs,h,hv=>by
  unfold sH at h
  split at h
  ·rename_i i r hi hr
   split at h
   ·rename_i C v hl
    simp at h
    subst h
    obtain⟨us,h1,h2⟩:=sV hT hR hr (fun v hm=>hv v (List.mem_cons_of_mem _ hm))
    obtain⟨k,o',b,e1,hb,u,hrun,hvv⟩:=Kf hT hi hl hR (o:=⟨none,.load ty (.tmp t),0, "", #[],none⟩) rfl
    have hrun:=hrun W rfl
    have hp:=hR.lk (.tmp t)
    rw[e1]at hp
    simp only[bV,cE,AR]at hp
    obtain⟨b',hb',e⟩:=hp
    refine⟨u::us,⟨⟨⟨b',o',none⟩,?_,?_⟩,h1⟩,?_,h2⟩
    ·simp only[Act.eval]at e
     cases hq:ts[t]? with
     | none=>
      simp[hq]at e
      cases e
     | some u=>
      simp[hq]at e
      rw[e]
    ·simp[execOp,e,Instr.loadAt,Instr.sureAddr]at hrun
     cases hq:(loadVar ty ⟨b',o',none⟩).run x.P W with
     | ok v w=>
      rw[hq]at hrun
      simp at hrun
      rw[hrun.1,hrun.2]
     | _=>rw[hq]at hrun;simp at hrun
    cases v with
    | tup l=>exact absurd rfl (hv _ (by simp) l)
    | any=>trivial
    | one a=>exact hvv
    | agg l=>exact hvv
   cases h
  cases h
end
theorem Cs {ob:List (Option Ob)}{m:Nat}:∀{rs l:List FV}{ks:List Nat},PkT ob m rs l ks->∀v∈rs,∀l,v≠.tup l
 | _,_,_,.nil,v,h,_=>by simp at h
 | _,_,_,.cons h h',v,hv,l=>by
  rcases List.mem_cons.1 hv with rfl | hv
  ·cases h <;> simp
  exact Cs h' v hv l
theorem Vs {ob:List (Option Ob)}{cs:List Co}{i:Nat}{r:Res}(h:(aL ob cs)[i]? =some r):∃o c,ob[i]? =some o/\cs[i]? =some c/\r=aQ o c:=by
 unfold aL at h
 rw[List.getElem?_zipWith]at h
 cases h1:ob[i]? with
 | none=>rw[h1]at h;cases h
 | some o=>
  cases h2:cs[i]? with
  | none=>rw[h1,h2]at h;cases h
  | some c=>
   rw[h1,h2]at h
   simp at h
   exact⟨o,c,rfl,rfl,h.symm⟩
section
variable {x:Cx}{g g':Nat->FV}{ob ob':List (Option Ob)}{cs cs':List Co}{ts ts':Array Value}{W W':World}{T:List (Nat×TI)}
theorem nA (l:List Lt):(bR l).length=l.length:=by simp[bR]
theorem iU (l:List Lt) (i:Nat):(bR l)[i]? =(l[i]?).map fun a=>some a.ob:=by simp[bR]
theorem Vt {fresh:Bool}{P:Program}{f:FuncId}{fn:Func}{c:Code}{lent:List Lt}{args:List FV}{R:List Lt->FV->Prop}(hf:P.funcs[f]? =some fn) (hb:fn.body=some c) (T:List (Nat×TI)) (hT:cH P T) (hle:Nat.ble args.length fn.ntmps=true)
  (h:∀x:Cx,x.P=P->x.n=fn.ntmps->x.c0.length=lent.length->(lent=[]->x.M=[])->WP x c (bP (oD 0 args)) (bR lent) (rA x T fn.results.toList fresh lent R)):aE fresh P f lent args R:=by
 intro N w cs us hL
 refine calls_of_wp hf hb ?_
 have hs0:=Sh.off (hL.sh 0 rfl)
 obtain⟨hobs,hfv⟩:=hs0
 have hus:=yT hfv
 have hle:args.length<=fn.ntmps:=Kz hle
 let x:Cx:=⟨P,N,(aL (bR lent) cs).flatMap Res.S,w,fn.ntmps,cs⟩
 have hNx:∀b,(pT w (aL (bR lent) cs) b/\N b)->x.fr w (bR lent) cs b:=fun b hb=>⟨hb.1,.inl hb.2⟩
 have hsz:(us.toArray++Array.replicate (fn.ntmps-us.toArray.size) undef).size=fn.ntmps:=by simp;omega
 have hR:RelC x (bP (oD 0 args)) (bR lent) cs (us.toArray++Array.replicate (fn.ntmps-us.toArray.size) undef) w:=by
  refine .of hsz hL ⟨hobs.1,fun k o hk=>⟨dI (fun _ _=>rfl) hNx .refl _ _ (hobs.2 k o hk).1,(hobs.2 k o hk).2⟩⟩ (fun i hi=>?_) .refl
  have hi':i<(us.toArray++Array.replicate (fn.ntmps-us.toArray.size) undef).size:=by rw[hsz];exact hi
  refine⟨_,Array.getElem?_eq_getElem hi',?_⟩
  by_cases hu:i<us.length
  ·have:=Gc (j:=0) (i:=i) hfv us[i] (fV hu)
   rw[Nat.zero_add]at this
   have e:(us.toArray++Array.replicate (fn.ntmps-us.toArray.size) undef)[i]=us[i]:=by
    rw[Array.getElem_append_left (by simpa using hu)]
    simp
   rw[e]
   exact gC (fun _ _=>rfl) hNx .refl _ _ this
  rw[Gd (by omega)]
  trivial
 have hlen:=hR.len
 rw[nA]at hlen
 have hw:=h x rfl rfl hlen.symm (fun e=>by simp only[x,e,bR,List.map_nil,aL,List.zipWith_nil_left,List.flatMap_nil]) _ w ⟨cs,hR⟩
 refine wp_mono hw fun e a W hq=>?_
 have main:∀g ob ts,a=⟨ts,[]⟩->Gz x g ob ts W->(∃rs r ks lent',EndA x T fn.results.toList fresh lent R g ob rs r ks lent')->a.defers=[]/\∃v,(results fn a.tmps).run P W=.ok v W/\Ended fresh N ((aL (bR lent) cs).flatMap Res.S) w lent cs R (.returned v) W:=by
  rintro g ob ts rfl ⟨cs2,hR2⟩ ⟨rs,r,ks,lent',hE⟩
  have hnt:∀v∈rs,∀l,v≠.tup l:=by
   rcases hE.pk with⟨v,rfl,hp⟩ | ⟨_,l,_,hp⟩
   ·intro v' hv' l
    simp at hv'
    subst hv'
    cases hp <;> simp
   exact Cs hp
  obtain⟨us2,hrv,hfl⟩:=sV hT hR2 hE.res hnt
  have hrun:=Ez hrv
  refine⟨rfl,_,hrun,?_⟩
  let cs':=cs2.take lent.length
  have hob:lent.length<=ob.length:=by
   rcases Nat.eq_zero_or_pos lent.length with h0 | h0
   ·omega
   have hi:lent.length-1<lent'.length:=by rw[hE.len];omega
   have h1:=hE.obs (lent.length-1) _ (fV hi)
   have h2:=(List.getElem?_eq_some_iff.1 (dL h1)).1
   omega
  have hcs2:lent.length<=cs2.length:=by rw[<-hR2.len];exact hob
  have hcl:cs'.length=lent.length:=by simp[cs',Nat.min_eq_left hcs2]
  have hco:∀i,i<lent.length->co cs' i=co cs2 i:=fun i hi=>by simp[cs',co,List.getElem?_take,hi]
  have hcoe:xK lent.length cs2 cs':=fun k hk=>⟨by rw[hcl];exact hk,hco k hk⟩
  -- the answer
  have hN0:∀b,x.fr W ob cs2 b->x.fr W ob cs2 b:=fun _ h=>h
  obtain⟨v,ys,hv,hro,hok,hsub⟩:∃(v:Value) (ys:List VT),v=(if h:us2.toArray.size=1 then us2.toArray[0]else .tuple us2.toArray)/\RO W (x.fr W ob cs2) cs' r v ys/\VT.okL W ys/\(VT.fpL ys).Sublist (ks.flatMap fun k=>(aQ (cR ob k) (co cs2 k)).S):=by
   rcases hE.pk with⟨v1,e1,hp⟩ | ⟨hne,l,rfl,hp⟩
   ·subst e1
    cases us2 with
    | nil=>simp only[dM]at hfl
    | cons u us2=>
     simp only[dM]at hfl
     obtain⟨hf1,hf2⟩:=hfl
     subst hf2
     obtain⟨ys,f2,f3,f4⟩:=hp.ok hcoe hR2 hN0 hf1
     exact⟨_,ys,rfl,by simpa using DE f2,f3,f4⟩
   obtain⟨ys,f2,f3,f4⟩:=hp.ok hcoe hR2 hN0 hfl
   have hl:=yT hfl
   refine⟨_,ys,rfl,?_,f3,f4⟩
   rw[dif_neg (by simp;omega)]
   exact⟨us2,rfl,f2⟩
  -- the lent ones
  have hpick:∀i,i<lent.length->∃a:Lt,lent'[i]? =some a/\cR ob i=some a.ob:=fun i hi=>by
   have hi':i<lent'.length:=by rw[hE.len];exact hi
   exact⟨_,fV hi',hE.obs i _ (fV hi')⟩
  have hre:aL (bR lent') cs'=(aL ob cs2).take lent.length:=by
   apply List.ext_getElem?
   intro i
   rw[List.getElem?_take]
   by_cases hi:i<lent.length
   ·rw[if_pos hi]
    obtain⟨a,ha,hob'⟩:=hpick i hi
    have e1:(bR lent')[i]? =some (some a.ob):=by rw[iU,ha];rfl
    rw[cA (ob:=bR lent') (cs:=cs') (by rw[nA,hcl,hE.len]) e1,hco i hi,cA hR2.len (dL hob')]
   rw[if_neg hi]
   apply List.getElem?_eq_none
   simp[aL,nA,hcl]
   omega
  have hks:∀k∈ks,(aL ob cs2)[k]? =some (aQ (cR ob k) (co cs2 k))\/(aQ (cR ob k) (co cs2 k)).S=[]:=fun k hk=>by
   cases hq:cR ob k with
   | none=>exact .inr (by simp[aQ])
   | some o=>exact .inl (cA hR2.len (dL hq))
  have hS2:∃l0,(ks.flatMap fun k=>(aQ (cR ob k) (co cs2 k)).S)=(pick (aL ob cs2) ks).flatMap Res.S/\l0=ks:=by
   refine⟨ks,?_,rfl⟩
   clear hsub
   have hks':=hks
   clear hks hE hre
   induction ks with
   | nil=>rfl
   | cons k ks ih=>
    have ih:=ih (fun k' h=>hks' k' (List.mem_cons_of_mem _ h))
    unfold pick at ih⊢
    rw[List.flatMap_cons,ih,List.filterMap_cons]
    rcases hks' k (by simp)with h1 | h1
    ·rw[h1]
     simp
    rw[h1,List.nil_append]
    cases hq:(aL ob cs2)[k]? with
    | none=>rfl
    | some r'=>
     obtain⟨o,c,e1,e2,rfl⟩:=Vs hq
     have e3:(aQ o c).S=[]:=by
      have hco2:co cs2 k=c:=by simp[co,e2]
      cases o with
      | none=>rfl
      | some o=>
       have:cR ob k=some o:=by simp[cR,e1]
       rw[this,hco2]at h1
       exact h1
     simp[e3]
  obtain⟨_,hS2,_⟩:=hS2
  have hnd2:(List.range lent.length++ks).Nodup:=by
   rw[List.nodup_append]
   refine⟨List.nodup_range,hE.nd,fun a ha b hb e=>?_⟩
   subst e
   have:=hE.far a hb
   have:=List.mem_range.1 ha
   omega
  have hLp:=hR2.2.pick (List.range lent.length++ks) hnd2
  have hpk:pick (aL ob cs2) (List.range lent.length++ks)=aL (bR lent') cs'++pick (aL ob cs2) ks:=by
   unfold pick
   rw[List.filterMap_append]
   congr 1
   rw[hre]
   have hl:lent.length<=(aL ob cs2).length:=by rw[iD hR2.len];exact hcs2
   generalize aL ob cs2=L at hl
   generalize lent.length=m at hl
   induction m with
   | zero=>simp
   | succ m ih=>
    rw[List.range_succ,List.filterMap_append,ih (by omega),List.take_add_one]
    simp[List.filterMap_cons]
    cases L[m]? <;> rfl
  rw[hpk]at hLp
  have hsubS:((aL (bR lent') cs'++[gG ys]).flatMap Res.S).Sublist ((aL (bR lent') cs'++pick (aL ob cs2) ks).flatMap Res.S):=by
   rw[List.flatMap_append,List.flatMap_append]
   refine List.Sublist.append (List.Sublist.refl _) ?_
   rw[<-hS2]
   simpa[gG]using hsub
  have hsubO:∀b,b∈(aL (bR lent') cs'++[gG ys]).flatMap Res.S->b∈(aL ob cs2).flatMap Res.S:=fun b hb=>by
   have:=hsubS.subset hb
   obtain⟨r',hr',hb'⟩:=List.mem_flatMap.1 this
   rw[<-hpk]at hr'
   obtain⟨i,_,hi⟩:=List.mem_filterMap.1 hr'
   exact List.mem_flatMap.2 ⟨r',List.mem_of_getElem? hi,hb'⟩
  have hfr:∀b,x.fr W ob cs2 b->pT W (aL (bR lent') cs'++[gG ys]) b/\(N b\/b∈(aL (bR lent) cs).flatMap Res.S\/w.heap.size<=b):=fun b hb=>⟨⟨hb.1.1,fun hm=>hb.1.2 (hsubO b hm)⟩,hb.2⟩
  have hsame:Same cs cs':=⟨by rw[hcl,hlen];exact aX _,fun k hk=>by rw[hco k (by rw[hlen];exact hk)];exact hR2.3.2 k hk⟩
  refine⟨_,lent',cs',r,ys,by rw[<-hv],hE.post,hE.len,hE.ty,by rw[hcl,hlen],hsame,?_⟩
  refine⟨hR2.2.chg,fun q hq=>?_,fun b hb=>hLp.blk b (hsubS.subset hb),hLp.nd.sublist hsubS,fun q hq=>?_⟩
  ·rcases List.mem_append.1 hq with hq | hq
   ·exact hLp.res q (List.mem_append_left _ hq)
   simp at hq
   subst hq
   exact hok
  rw[List.mem_singleton]at hq
  subst hq
  have hobr:Gy W (x.fr W ob cs2) cs' (bR lent'):=by
   refine⟨by rw[nA,hcl,hE.len],fun k o hk=>?_⟩
   rw[iU]at hk
   cases hq:lent'[k]? with
   | none=>rw[hq]at hk;cases hk
   | some a=>
    rw[hq]at hk
    simp at hk
    subst hk
    have hkl:k<lent.length:=by
     have:=(List.getElem?_eq_some_iff.1 hq).1
     rw[hE.len]at this
     exact this
    have h1:=hR2.obs.2 k _ (dL (hE.obs k a hq))
    rw[hco k hkl]
    exact⟨Vq hcoe (hE.refs a (List.mem_of_getElem? hq)) h1.1,h1.2⟩
  show Gy W _ cs' (bR lent')/\RO W _ cs' r _ ys
  cases hfresh:fresh with
  | false=>
   have hN2:∀b,x.fr W ob cs2 b->(false=false/\(pT W (aL (bR lent') cs'++[gG ys]) b/\(N b\/b∈(aL (bR lent) cs).flatMap Res.S\/w.heap.size<=b))):=fun b hb=>⟨rfl,hfr b hb⟩
   exact⟨⟨hobr.1,fun k o hk=>⟨dI (fun _ _=>rfl) hN2 .refl _ _ (hobr.2 k o hk).1,(hobr.2 k o hk).2⟩⟩,vA (fun _ _=>rfl) hN2 .refl hro⟩
  | true=>
   obtain⟨c1,c2⟩:=hE.clean hfresh
   refine⟨⟨hobr.1,fun k o hk=>⟨?_,(hobr.2 k o hk).2⟩⟩,Qy c1 hro⟩
   have h1:=(hobr.2 k o hk).1
   rw[iU]at hk
   cases hq:lent'[k]? with
   | none=>rw[hq]at hk;cases hk
   | some a=>
    rw[hq]at hk
    simp at hk
    subst hk
    exact Cq (c2 a (List.mem_of_getElem? hq)) h1
 cases e with
 | normal=>
  obtain⟨g,ob,ts,rfl,h1,h2⟩:=hq
  exact main g ob ts rfl h1 h2
 | ret=>
  obtain⟨g,ob,ts,rfl,h1,h2⟩:=hq
  exact main g ob ts rfl h1 h2
 | panic c=>exact hq.elim
 | exit id=>
  obtain⟨_,_,_,_,_,h2⟩:=hq
  exact h2.elim
 | goto l=>
  obtain⟨_,_,_,_,_,h2⟩:=hq
  exact h2.elim
 | outgrown=>
  obtain⟨_,_,_,_,_,h2⟩:=hq
  exact h2.elim
end
section
variable {x:Cx}{g g':Nat->FV}{ob ob':List (Option Ob)}{cs cs':List Co}{ts ts':Array Value}{W W':World}{T:List (Nat×TI)}{Q:Post}{ops:Array Oper}{rest:List Oper}
def xL:AV->AV
 | .t (.s _ t z n l)=>.t (.s false t z n l)
 | .t (.p _ t l)=>.t (.p false t l)
 | a=>a
def Yy:FV->FV
 | .one a=>.one (xL a)
 | .agg l=>.agg (l.map xL)
 | v=>v
def yF:FV->FV
 | .tup l=>.tup (l.map Yy)
 | v=>Yy v
theorem DG {N N':Nat->Prop}(hN:∀b,N b->N' b){a:AV}{y:VT}(h:CR W N [] a y) (hok:y.ok W) (hf:∀b∈y.fp,N' b):AR W N' cs (xL a) y.val:=by
 cases a with
 | t z=>
  simp only[CR]at h
  have h1:=Fj hN z y h hok hf
  cases z with
  | v w=>simpa only[xL,AR]using h1
  | s o t z n l=>
   simp only[xL,AR,FR]at h1⊢
   exact h1
  | p o t l=>
   simp only[xL,AR,FR]at h1⊢
   exact h1
  | f g l0 l=>simpa only[xL,AR]using h1
  | a l=>simpa only[xL,AR]using h1
 | sl k o n=>
  cases y with
  | w u=>
   simp only[CR,AR]at h
   simp at h
  | s=>simp only[CR]at h
  | p=>simp only[CR]at h
 | pt k o=>
  cases y with
  | w u=>
   simp only[CR,AR]at h
   obtain⟨b,hb,_⟩:=h
   simp[co]at hb
  | s=>simp only[CR]at h
  | p=>simp only[CR]at h
 | ef l o=>
  cases y with
  | w u=>
   simp only[CR,AR]at h
   simp only[xL,AR,VT.val]
   obtain⟨ad,h1,h2,h3⟩:=h
   exact⟨ad,hN _ h1,FRc_keep (fun _ _=>rfl) hN _ _ _ h1 h2,h3⟩
  | s=>simp only[CR]at h
  | p=>simp only[CR]at h
 | fn f a b=>
  cases y with
  | w u=>
   simp only[CR]at h
   exact kJ (fun _ _=>rfl) hN ⟨Nat.zero_le _,fun k hk=>by simp at hk⟩ _ _ h
  | s=>simp only[CR]at h
  | p=>simp only[CR]at h
theorem Vu {N N':Nat->Prop}(hN:∀b,N b->N' b):∀{l:List AV}{ys:List VT},bZ W N [] l ys->VT.okL W ys->(∀b∈VT.fpL ys,N' b)->ARL W N' cs (l.map xL) (ys.map VT.val)
 | [],ys,h,_,_=>by
  simp only[bZ]at h
  subst h
  simp[ARL]
 | a::l,[],h,_,_=>by simp only[bZ]at h
 | a::l,y::ys,h,hok,hf=>by
  simp only[bZ]at h
  simp only[VT.okL]at hok
  simp only[VT.fpL]at hf
  simp only[List.map_cons,ARL]
  exact⟨DG hN h.1 hok.1 (fun b hb=>hf b (by simp[hb])),Vu hN h.2 hok.2 (fun b hb=>hf b (by simp[hb]))⟩
theorem Gf {N N':Nat->Prop}(hN:∀b,N b->N' b){r:FV}{v:Value}{ys:List VT}(h:Bf W N [] r v ys) (hok:VT.okL W ys) (hf:∀b∈VT.fpL ys,N' b):cE W N' cs (Yy r) v:=by
 cases r with
 | one a=>
  obtain⟨z,rfl,rfl,h3⟩:=h
  simp only[VT.okL]at hok
  simp only[VT.fpL,List.append_nil]at hf
  exact DG hN h3 hok.1 hf
 | agg l=>
  obtain⟨rfl,h2⟩:=h
  exact⟨_,rfl,Vu hN h2 hok hf⟩
 | any=>exact h.elim
 | tup l=>exact h.elim
theorem Vv {N N':Nat->Prop}(hN:∀b,N b->N' b):∀{r:List FV}{vs:List Value}{ys:List VT},Cp W N [] r vs ys->VT.okL W ys->(∀b∈VT.fpL ys,N' b)->dM W N' cs (r.map Yy) vs
 | [],vs,ys,h,_,_=>by simp[dM,h.1]
 | a::l,vs,ys,⟨v,vs',y1,y2,h1,h2,h3,h4⟩,hok,hf=>by
  subst h1 h2
  rw[sG]at hok
  rw[oO]at hf
  simp only[List.map_cons,dM]
  exact⟨Gf hN h3 hok.1 (fun b hb=>hf b (by simp[hb])),Vv hN h4 hok.2 (fun b hb=>hf b (by simp[hb]))⟩
theorem PJ {N N':Nat->Prop}(hN:∀b,N b->N' b){r:FV}{v:Value}{ys:List VT}(h:RO W N [] r v ys) (hok:VT.okL W ys) (hf:∀b∈VT.fpL ys,N' b):bV W N' cs (yF r) v:=by
 cases r with
 | tup l=>
  obtain⟨vs,rfl,h2⟩:=h
  exact⟨vs,rfl,Vv hN h2 hok hf⟩
 | one a=>exact Gf (r:=.one a) hN h hok hf
 | agg l=>exact Gf (r:=.agg l) hN h hok hf
 | any=>exact h.elim
mutual
def Es:Tr->Tr
 | .v x=>.v x
 | .s _ t z n l=>.s false t z n (rdTL l)
 | .p _ t l=>.p false t (rdTL l)
 | .f g l0 l=>.f g l0 l
 | .a l=>.a l
def rdTL:List Tr->List Tr
 | []=>[]
 | x::l=>Es x::rdTL l
end
theorem Ra:∀(l:List Tr),(rdTL l).length=l.length
 | []=>rfl
 | x::l=>by simp[rdTL,Ra l]
mutual
theorem Ph {N:Nat->Prop}:∀(x:Tr) (u:Value),FR W N x u->FR W N (Es x) u
 | .v x,u,h=>by simpa[Es]using h
 | .s o t z n l,u,h=>by
  simp only[Es,FR]at*
  obtain⟨A,c,h1,h2,h3,h4,h5⟩:=h
  refine⟨A,c,h1,h2,h3,by rw[Ra,h4],?_⟩
  rcases h5 with h5 | ⟨ad,h5,h6,h7⟩
  ·exact .inl h5
  exact .inr ⟨ad,h5,h6,FRc_rdT l ad 0 h7⟩
 | .p o t l,u,h=>by
  simp only[Es,FR]at*
  obtain⟨ad,h5,h6,h7⟩:=h
  exact⟨ad,h5,h6,FRc_rdT l ad 0 h7⟩
 | .f ..,u,h | .a ..,u,h=>by simpa only[Es]using h
theorem FRc_rdT {N:Nat->Prop}:∀(l:List Tr) (ad:Addr) (j:Nat),FRc W N ad j l->FRc W N ad j (rdTL l)
 | [],_,_,_=>by simp[rdTL,FRc]
 | x::l,ad,j,h=>by
  simp only[rdTL,FRc]at*
  obtain⟨⟨u,h1,h2⟩,h3⟩:=h
  exact⟨⟨u,h1,Ph x u h2⟩,FRc_rdT l ad (j+1) h3⟩
end
def NV (fresh:Bool) (x:Cx) (ob:List (Option Ob)) (cs:List Co) (W:World) (b:Nat):Prop:=(fresh=true/\b<W.heap.size)\/x.fr W ob cs b
def A1 (fresh:Bool) (x:Cx) (g:Nat->FV) (ob:List (Option Ob)) (o:Operand) (a:FV):Prop:=∀cs ts W,RelC x g ob cs ts W->cE W (NV fresh x ob cs W) [] a (Act.eval ⟨ts,[]⟩ o)
inductive Vw (fresh:Bool) (ob:List (Option Ob)):AV->AV->Prop
 | t {y:Tr}:Vw fresh ob (.t y) (.t y)
 | nil {t z:Nat}:Vw fresh ob (tv (.slice none 0 0)) (.t (.s false t z 0 []))
 | sl {k o n t z t':Nat}{l:List AV}{trs:List Tr}(hf:fresh=true) (h:cR ob k=some ⟨t,z,l⟩) (hl:(l.drop o).take trs.length=trs.map .t) (hn:trs.length=n*z):Vw fresh ob (.sl k o n) (.t (.s false t' z n trs))
 | pt {k o t z t':Nat}{l:List AV}{trs:List Tr}(hf:fresh=true) (h:cR ob k=some ⟨t,z,l⟩) (hl:(l.drop o).take trs.length=trs.map .t):Vw fresh ob (.pt k o) (.t (.p false t' trs))
 | ef {l:List Tr}{o:Nat}:Vw fresh ob (.ef l o) (.ef l o)
 | sr {k o n t z t':Nat}{l:List AV}{trs trs':List Tr}(hf:fresh=true) (h:cR ob k=some ⟨t,z,l⟩) (hl:(l.drop o).take trs.length=trs.map .t) (hn:trs.length=n*z) (hr:rdTL trs=trs'):Vw fresh ob (.sl k o n) (.t (.s false t' z n trs'))
 | pe {k o t z:Nat}{l:List AV}{trs trs':List Tr}(hf:fresh=true) (h:cR ob k=some ⟨t,z,l⟩) (hl:(l.drop o).take trs.length=trs.map .t) (hr:rdTL trs=trs'):Vw fresh ob (.pt k o) (.ef trs' 0)
inductive VwL (fresh:Bool) (ob:List (Option Ob)):List AV->List AV->Prop
 | nil:VwL fresh ob [] []
 | cons {a a':AV}{l l':List AV}(h:Vw fresh ob a a') (h':VwL fresh ob l l'):VwL fresh ob (a::l) (a'::l')
theorem VwL.same {fresh:Bool}:∀(l:List Tr),VwL fresh ob (l.map .t) (l.map .t)
 | []=>.nil
 | y::l=>.cons .t (VwL.same l)
theorem Ef {N:Nat->Prop}:∀{l:List AV}{ys:List VT}{j:Nat}{a:AV},bZ W N cs l ys->l[j]? =some a->∃y,ys[j]? =some y/\CR W N cs a y
 | [],_,_,_,_,h=>by simp at h
 | a::l,y::ys,0,b,h,hj=>by
  simp only[bZ]at h
  simp at hj
  subst hj
  exact⟨y,rfl,h.1⟩
 | a::l,y::ys,j+1,b,h,hj=>by
  simp only[bZ]at h
  simpa using Ef h.2 (j:=j) (by simpa using hj)
 | _::_,[],_,_,h,_=>by simp only[bZ]at h
theorem Kj:∀{ys:List VT}{j:Nat}{y:VT},VT.okL W ys->ys[j]? =some y->y.ok W
 | [],_,_,_,h=>by simp at h
 | y::ys,0,z,h,hj=>by
  simp only[VT.okL]at h
  simp at hj
  subst hj
  exact h.1
 | y::ys,j+1,z,h,hj=>by
  simp only[VT.okL]at h
  exact Kj (j:=j) h.2 (by simpa using hj)
theorem Vx:∀{ys:List VT}{j:Nat}{y:VT},ys[j]? =some y->∀b∈y.fp,b∈VT.fpL ys
 | [],_,_,h=>by simp at h
 | y::ys,0,z,hj=>by
  simp at hj
  subst hj
  intro b hb
  simp[VT.fpL,hb]
 | y::ys,j+1,z,hj=>fun b hb=>by
  have:=Vx (ys:=ys) (j:=j) (by simpa using hj) b hb
  simp[VT.fpL,this]
theorem An {N N':Nat->Prop}(hN:∀b,N b->N' b){trs:List Tr}{l:List AV}{ys:List VT}{b t m o:Nat}(hc:bZ W N cs l ys) (hl:(l.drop o).take trs.length=trs.map .t) (hok:VT.okL W ys) (hf:∀b∈VT.fpL ys,N' b) (hb:Blk W b t m (ys.map VT.val)):FRc W N' ⟨b,o,none⟩ 0 trs:=by
 refine Ch fun j y hj=>?_
 have hlt:=(List.getElem?_eq_some_iff.1 hj).1
 have e:l[o+j]? =some (.t y):=by
  have h1:=congrArg (·[j]?) hl
  simp only[List.getElem?_take,if_pos hlt,List.getElem?_drop,List.getElem?_map,hj,Option.map_some]at h1
  exact h1
 obtain⟨z,hz,hr⟩:=Ef hc e
 simp only[CR]at hr
 refine⟨z.val,?_,Fj hN y z hr (Kj hok hz) (fun b hb=>hf b (Vx hz b hb))⟩
 have h2:=rN hb (j:=o+j) (u:=z.val) (by simp[hz])
 rw[kM]at h2⊢
 rw[Nat.zero_add]at h2⊢
 exact h2
theorem RelC.blkS (h:RelC x g ob cs ts W){k:Nat}{o:Ob}(hk:ob[k]? =some (some o)):∀b∈(aQ (some o) (co cs k)).S,b<W.heap.size:=fun b hb=>
 (h.2.blk b (List.mem_flatMap.2 ⟨_,List.mem_of_getElem? (cA h.len hk),hb⟩)).2
theorem LE {fresh:Bool}(hR:RelC x g ob cs ts W){k o n t z t':Nat}{l:List AV}{trs:List Tr}(hf:fresh=true) (h:cR ob k=some ⟨t,z,l⟩) (hl:(l.drop o).take trs.length=trs.map .t) (hn:trs.length=n*z){u:Value}(hu:AR W (x.fr W ob cs) cs (.sl k o n) u):AR W (NV fresh x ob cs W) [] (.t (.s false t' z n trs)) u:=by
 have hN:∀b,x.fr W ob cs b->NV fresh x ob cs W b:=fun _ h=>.inr h
 have hk:=dL h
 simp only[AR]at hu⊢
 simp only[FR]
 cases hb:(co cs k).b with
 | none=>
  rw[hb]at hu
  obtain⟨_,rfl,rfl,rfl⟩:=hu
  exact⟨none,0,rfl,aX _,by omega,hn,.inl rfl⟩
 | some b=>
  rw[hb]at hu
  obtain⟨_,o',c,rfl,h1,h2,h3,_⟩:=hu
  obtain⟨k1,k2,k3⟩:=hR.blk hk hb
  have hS:=hR.blkS hk
  refine⟨_,c,rfl,h1,h2,hn,?_⟩
  rcases Nat.eq_zero_or_pos n with h0 | h0
  ·exact .inl h0
  obtain rfl:=h3 (.inl h0)
  refine .inr ⟨_,rfl,.inl ⟨hf,hS b (by simp[aQ,hb])⟩,?_⟩
  exact An hN (hR.crl hk) hl k2 (fun b' hb'=>.inl ⟨hf,hS b' (by simp[aQ,hb,hb'])⟩) k1
theorem Vw.ok {fresh:Bool}(hR:RelC x g ob cs ts W){a a':AV}(h:Vw fresh ob a a'){u:Value}(hu:AR W (x.fr W ob cs) cs a u):AR W (NV fresh x ob cs W) [] a' u:=by
 have hN:∀b,x.fr W ob cs b->NV fresh x ob cs W b:=fun _ h=>.inr h
 cases h with
 | t=>
  simp only[AR]at hu⊢
  exact lF (fun _ _=>rfl) hN _ _ hu
 | nil=>
  simp only[tv,AR,FR]at hu
  subst hu
  simp only[AR,FR]
  exact⟨none,0,rfl,aX _,by omega,by simp,.inl trivial⟩
 | sl hf h hl hn=>exact LE hR hf h hl hn hu
 | @pt k o t z t' l trs hf h hl=>
  have hk:=dL h
  simp only[AR]at hu⊢
  simp only[FR]
  obtain⟨b,hb,rfl⟩:=hu
  obtain⟨k1,k2,k3⟩:=hR.blk hk hb
  have hS:=hR.blkS hk
  refine⟨_,rfl,.inl ⟨hf,hS b (by simp[aQ,hb])⟩,?_⟩
  exact An hN (hR.crl hk) hl k2 (fun b' hb'=>.inl ⟨hf,hS b' (by simp[aQ,hb,hb'])⟩) k1
 | ef=>
  simp only[AR]at hu⊢
  obtain⟨ad,h1,h2,h3⟩:=hu
  exact⟨ad,hN _ h1,FRc_keep (fun _ _=>rfl) hN _ _ _ h1 h2,h3⟩
 | @sr k o n t z t' l trs trs' hf h hl hn hr=>
  have h9:=LE (t':=t') hR hf h hl hn hu
  simp only[AR]at h9⊢
  have h8:=Ph _ _ h9
  simp only[Es,hr]at h8
  exact h8
 | @pe k o t z l trs trs' hf h hl hr=>
  have hk:=dL h
  simp only[AR]at hu⊢
  obtain⟨b,hb,rfl⟩:=hu
  obtain⟨k1,k2,k3⟩:=hR.blk hk hb
  have hS:=hR.blkS hk
  have h9:=An hN (hR.crl hk) hl k2 (fun b' hb'=>.inl ⟨hf,hS b' (by simp[aQ,hb,hb'])⟩) k1
  refine⟨⟨b,o,none⟩,.inl ⟨hf,hS b (by simp[aQ,hb])⟩,?_,by rw[Gx]⟩
  rw[<-hr]
  exact FRc_rdT _ _ _ h9
theorem VwL.ok {fresh:Bool}(hR:RelC x g ob cs ts W):∀{l l':List AV}{us:List Value},VwL fresh ob l l'->ARL W (x.fr W ob cs) cs l us->ARL W (NV fresh x ob cs W) [] l' us
 | _,_,us,.nil,hu=>by simpa[ARL]using hu
 | _,_,[],.cons h h',hu=>by simp only[ARL]at hu
 | _,_,u::us,.cons h h',hu=>by
  simp only[ARL]at hu⊢
  exact⟨h.ok hR hu.1,VwL.ok hR h' hu.2⟩
theorem CH {fresh:Bool}{o:Operand}{a a':AV}(h:lk x.n g o=.one a) (hv:Vw fresh ob a a'):A1 fresh x g ob o (.one a'):=fun cs ts W hR=>by
 have h1:=hR.lk o
 rw[h]at h1
 exact hv.ok hR h1
theorem Hk {fresh:Bool}{o:Operand}{l l':List AV}(h:lk x.n g o=.agg l) (hv:VwL fresh ob l l'):A1 fresh x g ob o (.agg l'):=fun cs ts W hR=>by
 have h1:=hR.lk o
 rw[h]at h1
 obtain⟨us,e,h2⟩:=h1
 exact⟨us,e,hv.ok hR h2⟩
theorem a1 {fresh:Bool}{o:Operand}{y:Tr}(h:lk x.n g o=.one (.t y)):A1 fresh x g ob o (.one (.t y)):=CH h .t
theorem nD {fresh:Bool}{o:Operand}{l:List Tr}(h:lk x.n g o=.agg (l.map .t)):A1 fresh x g ob o (.agg (l.map .t)):=Hk h (VwL.same l)
def AL (fresh:Bool) (x:Cx) (g:Nat->FV) (ob:List (Option Ob)):List Operand->List FV->Prop
 | [],aa=>aa=[]
 | _::_,[]=>False
 | o::os,a::aa=>A1 fresh x g ob o a/\AL fresh x g ob os aa
theorem LF {fresh:Bool}(hR:RelC x g ob cs ts W):∀{os:List Operand}{aa:List FV},AL fresh x g ob os aa->dM W (NV fresh x ob cs W) [] aa (os.map (Act.eval ⟨ts,[]⟩))
 | [],aa,h=>by
  simp only[AL]at h
  simp[h,dM]
 | o::os,[],h=>by simp only[AL]at h
 | o::os,a::aa,h=>by
  simp only[AL]at h
  simp only[List.map_cons,dM]
  exact⟨h.1 _ _ _ hR,LF hR h.2⟩
variable {d:Nat}{ty:TypeId}{pos:String}{af:Array Edge}{gd:Option (Nat×Bool)}
theorem Mj {fresh:Bool}{f:FuncId}{args:List FV}{R:List Lt->FV->Prop}{os:List Operand}(hS:aE fresh x.P f [] args R) (ha:AL fresh x g ob os args) (hR:RelC x g ob cs ts W):
  Calls x.P f (os.map (Act.eval ⟨ts,[]⟩)).toArray W (fun e W'=>∃v r ys,e=.returned v/\R [] r/\Below W.heap.size W W'/\VT.okL W' ys/\(VT.fpL ys).Nodup/\(∀b∈VT.fpL ys,W.heap.size<=b/\b<W'.heap.size)/\
   RO W' (fun b=>fresh=false/\b∉VT.fpL ys/\b<W'.heap.size/\(x.fr W ob cs b\/W.heap.size<=b)) [] r v ys):=by
 have h:=hS (NV fresh x ob cs W) W [] _ ⟨Chg.refl _ _,by simp[bR,aL],by simp[bR,aL],by simp[bR,aL],fun q hq=>by
  simp at hq
  subst hq
  refine⟨⟨rfl,fun k o hk=>by simp[bR]at hk⟩,?_⟩
  refine nR (fun _ _=>rfl) (fun b hb=>⟨⟨?_,by simp[bR,aL]⟩,hb⟩) .refl _ _ (LF hR ha)
  rcases hb with hb | hb
  ·exact hb.2
  exact hb.1.1⟩
 refine h.mono fun e W' hE=>?_
 obtain⟨v,lent',cs',r,ys,rfl,hr,hl,_,hcl,_,hL⟩:=hE
 obtain rfl:lent'=[]:=List.eq_nil_of_length_eq_zero hl
 obtain rfl:cs'=[]:=List.eq_nil_of_length_eq_zero hcl
 have hL':Loc [] W W' [gG ys] _:=hL
 have hsh:=Sh.off (hL'.sh 0 rfl)
 refine⟨v,r,ys,rfl,hr,hL'.bel,hL'.get 0 rfl,by simpa[gG]using hL'.nd,fun b hb=>?_,?_⟩
 ·have:=hL'.blk b (by simpa[gG]using hb)
  exact⟨this.1.resolve_left (by simp),this.2⟩
 refine vA (fun _ _=>rfl) (fun b hb=>?_) .refl hsh.2
 obtain⟨h1,⟨h2,h3⟩,h4⟩:=hb
 refine⟨h1,by simpa[gG]using h3,h2,?_⟩
 rcases h4 with h4 | h4
 ·rcases h4 with h4 | h4
  ·rw[h1]at h4
   cases h4.1
  exact .inl h4
 exact .inr (h4.resolve_left (by simp[bR,aL]))
theorem RelC.below (hR:RelC x g ob cs ts W) (hb:Below W.heap.size W W') (d:Option Nat):Aft [] d ob cs ts W ob cs ts W':=⟨.refl,fun _ _ _=>rfl,hb.size,fun b h _=>hb.block b h,fun b h=>.inl h,fun _ _=>rfl⟩
theorem Eg {fresh:Bool}{f:FuncId}{args:List FV}{R:List Lt->FV->Prop}{aa:Array Operand}{ats:Array TypeId}(hS:aE fresh x.P f [] args R) (hf:CallOk x.P f) (ha:AL fresh x g ob aa.toList args):
  OS x ⟨some d,.call ⟨.value (.func f),aa,ats⟩,ty,pos,af,gd⟩ g ob [] (fun g' ob'=>∃r,R [] r/\g'=bG g d (yF r)/\ob'=ob):=by
 intro cs ts W hR K Q kk
 have hC:=Mj hS ha hR
 obtain⟨fn,c,h1,h2,h3⟩:=hf
 have hrun:(execOp (Act.eval ⟨ts,[]⟩) ⟨some d,.call ⟨.value (.func f),aa,ats⟩,ty,pos,af,gd⟩).run x.P W=.ok (.enter f (aa.toList.map (Act.eval ⟨ts,[]⟩)).toArray) W:=by
  have e0:Act.eval ⟨ts,[]⟩ (.func f)=.func (.func f) #[] #[]:=rfl
  have e1:aa.map (Act.eval ⟨ts,[]⟩)=(aa.toList.map (Act.eval ⟨ts,[]⟩)).toArray:=by apply Array.ext';simp only[Array.toList_map]
  simp[execOp,resolve,e0,Deferred.ofValue,invoke,e1,callFunc,h1,h3]
  intro hn
  rw[hn]at h2
  simp at h2
 unfold Oper.wp
 rw[hrun]
 refine hC.mono fun e W' hE=>?_
 obtain⟨v,r,ys,rfl,hr,hb,hok,hnd,hfp,hro⟩:=hE
 have hR':=hR.ext hb
 have hfr:∀b,b<W'.heap.size->(x.fr W ob cs b\/W.heap.size<=b)->x.fr W' ob cs b:=fun b hlt hb'=>by
  rcases hb' with hb' | hb'
  ·exact wX hb' hb.size (fun _ h=>.inl h)
  refine⟨⟨hlt,fun hm=>?_⟩,.inr (.inr (Nat.le_trans hR.2.chg.size hb'))⟩
  have:=(hR.2.blk b hm).2
  omega
 refine kk _ _ cs (ts.setIfInBounds d v) W' ⟨r,hr,rfl,rfl⟩ (hR'.put d ?_) ((hR.below hb (some d)).then_put v)
 exact PJ (fun b hb'=>hfr b hb'.2.2.1 hb'.2.2.2) hro hok (fun b hb'=>hfr b (hfp b hb').2 (.inr (hfp b hb').1))
end
section
variable {x:Cx}{g g':Nat->FV}{ob ob':List (Option Ob)}{cs cs':List Co}{ts ts':Array Value}{W W':World}{T:List (Nat×TI)}{Q:Post}{ops:Array Oper}{rest:List Oper}
theorem RelC.move (h:RelC x g ob cs ts W){k:Nat}{o:Ob}(hk:ob[k]? =some (some o)) (o':Ob) (c':Co) (hc:Chg (aQ (some o) (co cs k)).S W W') (hφ:(aQ (some o') c').φ W')
    (hS:∀b∈(aQ (some o') c').S,b∈(aQ (some o) (co cs k)).S\/(W.heap.size<=b/\b<W'.heap.size)) (hn:(aQ (some o') c').S.Nodup)
    (hcr:(∀b,x.fr W ob cs b->W'.heap[b]? =W.heap[b]?)->(∀b,x.fr W ob cs b->x.fr W' (ob.set k none++[some o']) (cs++[c']) b)->bZ W' (x.fr W' (ob.set k none++[some o']) (cs++[c'])) (cs++[c']) o'.l c'.l) (hz:c'.b=none->o'.l=[]/\o'.z≠0):
    RelC x g (ob.set k none++[some o']) (cs++[c']) ts W'/\∀d,Aft [k] d ob cs ts W (ob.set k none++[some o']) (cs++[c']) ts W':=by
  have hlen:=h.len
  have hkl:k<cs.length:=by
    have:=(List.getElem?_eq_some_iff.1 hk).1
    omega
  have hset:=h.2.set k (cA hlen hk) hc hφ hS hn
  have e1:aL (ob.set k none) cs=(aL ob cs).set k (aQ none (co cs k)):=by
    have h1:=mZ (ob:=ob) (cs:=cs) (k:=k) (o:=none) (c:=co cs k)
    have h2:cs.set k (co cs k)=cs:=by
      unfold co
      rw[fV hkl]
      simp
    rwa[h2]at h1
  have hr:aL (ob.set k none++[some o']) (cs++[c'])=(aL ob cs).set k (aQ none (co cs k))++[aQ (some o') c']:=by
    unfold aL at e1⊢
    rw[List.zipWith_append (by simp[hlen]),e1]
    rfl
  have hkr:k<(aL ob cs).length:=by rw[iD hlen];exact hkl
  have hp:List.Perm (((aL ob cs).set k (aQ (some o') c')).flatMap Res.S) (((aL ob cs).set k (aQ none (co cs k))++[aQ (some o') c']).flatMap Res.S):=by
    rw[List.set_eq_take_append_cons_drop,if_pos hkr,List.set_eq_take_append_cons_drop,if_pos hkr]
    simp only[List.flatMap_append,List.flatMap_cons,List.flatMap_nil,List.append_nil,List.append_assoc]
    refine List.Perm.append_left _ ?_
    have:(aQ none (co cs k)).S=[]:=rfl
    rw[this,List.nil_append]
    exact List.perm_append_comm
  have hL:Loc x.M x.w W' (aL (ob.set k none++[some o']) (cs++[c'])) [(JL x.n g ob cs ts).on x.NN]:=by
    rw[hr]
    refine hset.conv hp fun hall r hr=>?_
    rcases List.mem_append.1 hr with hr | hr
    · obtain⟨j,hj⟩:=List.mem_iff_getElem?.1 hr
      rw[List.getElem?_set]at hj
      split at hj
      · first
          | (injection hj with hj
             subst hj
             simp[aQ])
          | (split at hj
             · injection hj with hj
               subst hj
               simp[aQ]
             cases hj)
      rename_i hne
      exact hall r (List.mem_iff_getElem?.2 ⟨j,by rw[List.getElem?_set_ne hne];exact hj⟩)
    simp at hr
    subst hr
    exact hφ
  have hown:∀b∈dO (ob.set k none++[some o']) (cs++[c']),b∈dO ob cs\/W.heap.size<=b:=by
    intro b hb
    unfold dO at hb
    rw[hr,<-hp.mem_iff]at hb
    obtain⟨r,hr,hbr⟩:=List.mem_flatMap.1 hb
    rcases List.mem_or_eq_of_mem_set hr with hr | rfl
    · exact .inl (List.mem_flatMap.2 ⟨r,hr,hbr⟩)
    rcases hS b hbr with h1 | h1
    · exact .inl (List.mem_flatMap.2 ⟨_,List.mem_of_getElem? (cA hlen hk),h1⟩)
    exact .inr h1.1
  have hkeep:∀b,x.fr W ob cs b->W'.heap[b]? =W.heap[b]? :=fun b hb=>hc.block b hb.1.1 (fun hm=>hb.1.2 (List.mem_flatMap.2 ⟨_,List.mem_of_getElem? (cA hlen hk),hm⟩))
  have hN:∀b,x.fr W ob cs b->x.fr W' (ob.set k none++[some o']) (cs++[c']) b:=fun b h=>wX h hc.size hown
  refine⟨.of h.1 hL ⟨by simp[hlen],fun j o2 hj=>?_⟩ (fun i hi=>?_) (h.3.trans .app),fun d=>⟨.app,fun j _ hj=>pJ hj,hc.size,fun b hb hne=>hc.block b hb (hne k (by simp) _ hk),hown,fun _ _=>rfl⟩⟩
  · rw[List.getElem?_append]at hj
    split at hj
    · rename_i hlt
      rw[List.getElem?_set]at hj
      split at hj
      · split at hj
        · simp at hj
        cases hj
      have h1:=h.obs.2 j o2 hj
      rw[pJ (by simp at hlt;omega)]
      exact⟨dI hkeep hN .app _ _ h1.1,h1.2⟩
    have e:j=ob.length:=by
      have:=(List.getElem?_eq_some_iff.1 hj).1
      simp at this
      rename_i hge
      simp at hge
      omega
    subst e
    simp at hj
    subst hj
    rw[hlen,iT]
    exact⟨hcr hkeep hN,hz⟩
  obtain⟨u,h1,h2⟩:=h.fv hi
  exact⟨u,h1,gC hkeep hN .app _ _ h2⟩
variable {d:Nat}{ty:TypeId}{pos:String}{af:Array Edge}{gd:Option (Nat×Bool)}
def lX (z:List Value):Nat->List Value
 | 0=>[]
 | n+1=>z++lX z n
def sW (e sz:Nat):Nat->Nat->List (Nat×Nat×Nat)
 | _,0=>[]
 | i,n+1=>(i*sz,e,sz)::sW e sz (i+1) n
theorem Mk {e sz:Nat}:∀{n i j:Nat},j<n->(sW e sz i n)[j]? =some ((i+j)*sz,e,sz)
 | 0,_,_,h=>by omega
 | n+1,i,0,_=>by simp[sW]
 | n+1,i,j+1,h=>by
  simp only[sW,List.getElem?_cons_succ]
  rw[Mk (by omega)]
  rw[show i+1+j=i+(j+1) by omega]
theorem Ml {e sz:Nat}:∀{n i:Nat},(sW e sz i n).length=n
 | 0,_=>rfl
 | n+1,i=>by simp[sW,Ml]
def Rb (T:List (Nat×TI)) (n:Nat) (g:Nat->FV) (t len k:Nat) (ps:List (Nat×Operand)) (ob:List (Option Ob)):Option (List (Option Ob)):=match eM ob k&&(!(Nat.beq len 0))with
 | true=>match bX T t with
  | some ⟨_,_,_,.sl e sz _ zz⟩=>match Nat.ble (len*sz) 16777216&&Nat.beq zz.cells.toList.length sz with
   | true=>match Kd (sW e sz 0 len) ((lX zz.cells.toList len).map tv) (ps.map fun p=>(p.1,lk n g p.2)) fun l=>all l fun l=>match fQ l with
     | true=>ev (.agg l)
     | false=>none with
    | some (_,.agg l)=>DA ob (some ⟨e,sz,l⟩) some
    | _=>none
   | false=>none
  | _=>none
 | false=>none
theorem Ao {z:List Value}{n:Nat}:(lX z n).length=n*z.length:=by
 induction n with
 | zero=>simp[lX]
 | succ n ih=>simp[lX,ih,Nat.succ_mul,Nat.add_comm]
theorem Gg {z:List Value}:∀{n j:Nat},j<n*z.length->(lX z n)[j]? =z[j%z.length]?
 | 0,j,h=>by simp at h
 | n+1,j,h=>by
  unfold lX
  rcases Nat.lt_or_ge j z.length with h1 | h1
  ·rw[List.getElem?_append_left h1,Nat.mod_eq_of_lt h1]
  rw[List.getElem?_append_right h1,Gg (by rw[Nat.succ_mul]at h;omega)]
  congr 1
  rw[Nat.mod_eq_sub_mod h1]
theorem LG (hT:cH x.P T){t len k:Nat}{ps:Array (Nat×Operand)}(h:Rb T x.n g t len k ps.toList ob=some ob'):OS x ⟨some d,.buildSlice t len ps,ty,pos,af,gd⟩ g ob [] (fun g' ob2=>g'=bG g d (.one (.sl k 0 len))/\ob2=ob'):=by
 unfold Rb at h
 split at h
 ·rename_i hk
  rw[Bool.and_eq_true]at hk
  obtain⟨hk,hpos⟩:=hk
  split at h
  ·rename_i _ _ _ e sz by_ zz ht
   split at h
   ·rename_i hsm
    rw[Bool.and_eq_true]at hsm
    obtain⟨hsm,hzz⟩:=hsm
    split at h
    ·rename_i l hl
     have h:=Iq h
     injection h with h
     subst h
     have hk:=Nat.eq_of_beq_eq_true hk
     subst hk
     obtain⟨hts,ht',i,hi,hz,hsize,hby,hzs,hsz⟩:=(dX hT ht).2.2.2
     have hzz:=Nat.eq_of_beq_eq_true hzz
     have hlen0:len≠0:=fun e=>by subst e;simp at hpos
     intro cs ts W hR K Q kk
     obtain⟨l',us',r1,r2,r3⟩:=Ea (W:=W) (N:=x.fr W ob cs) (cs:=cs) (us:=lX zz.cells.toList len) (vs:=ps.toList.map fun p=>(p.1,Act.eval ⟨ts,[]⟩ p.2)) (Vj _) hl (by simp) (fun j p q hp hq=>by
      simp only[List.getElem?_map,Option.map_eq_some_iff]at hp hq
      obtain⟨a,ha,rfl⟩:=hp
      obtain⟨b,hb,rfl⟩:=hq
      rw[ha]at hb
      injection hb with hb
      subst hb
      exact⟨rfl,hR.lk _⟩)
     have r4:=In r3
     split at r4
     ·rename_i hrd
      obtain⟨_,r5⟩:=pr r4
      injection r5 with r5
      subst r5
      have hlu:=iG r1
      have hsm:=Kz hsm
      have hsp:sz≠0:=by omega
      have hlp:¬len*i.size=0:=by rw[hsize];exact Nat.mul_ne_zero hlen0 hsp
      have hzc:((Array.range (len*i.size)).map (zz.cells[· %zz.cells.size]!))=(lX zz.cells.toList len).toArray:=by
       apply Array.ext'
       rw[hsize]
       apply List.ext_getElem?
       intro j
       simp only[Array.toList_map,Array.toList_range,List.getElem?_map]
       by_cases hj:j<len*sz
       ·rw[List.getElem?_range hj,Gg (by rw[hzz];exact hj)]
        simp only[Option.map_some]
        have hm:j%zz.cells.toList.length<zz.cells.toList.length:=Nat.mod_lt _ (by omega)
        rw[fV hm]
        congr 1
        rw[<-Array.length_toList,getElem!_pos zz.cells _ (by simpa using hm)]
        simp
       rw[List.getElem?_eq_none (by simp;omega),List.getElem?_eq_none (by simp[Ao,hzz];omega)]
       rfl
      have hfl:lL (fun i=>some (i*sz,sz)) (lX zz.cells.toList len) (ps.toList.map fun p=>(p.1,Act.eval ⟨ts,[]⟩ p.2))=some us':=by
       have gen:∀(vs:List (Nat×Value)) (cells out:List Value),lL (fun i=>((sW e sz 0 len).map fun x=>(x.1,x.2.2))[i]?) cells vs=some out->lL (fun i=>some (i*sz,sz)) cells vs=some out:=by
        intro vs
        induction vs with
        | nil=>intro cells out h;exact h
        | cons p vs ih=>
         intro cells out h
         obtain⟨i0,v0⟩:=p
         unfold lL at h⊢
         by_cases hi0:i0<len
         ·have e0:((sW e sz 0 len).map fun x=>(x.1,x.2.2))[i0]? =some (i0*sz,sz):=by
           rw[List.getElem?_map,Mk hi0]
           simp
          rw[e0]at h
          dsimp only at h⊢
          cases hb:(Nat.beq v0.cells.toList.length sz&&Nat.ble (i0*sz+v0.cells.toList.length) cells.length)with
          | false=>rw[hb]at h;cases h
          | true=>
           rw[hb]at h
           exact ih _ _ h
         have e0:((sW e sz 0 len).map fun x=>(x.1,x.2.2))[i0]? =none:=by
          apply List.getElem?_eq_none
          simp[Ml]
          omega
         rw[e0]at h
         cases h
       exact gen _ _ _ r2
      have h1:=run_buildSlice (P:=x.P) W t e len (ps.toList.map fun p=>(p.1,Act.eval ⟨ts,[]⟩ p.2)).toArray us'.toArray i zz ht' hi hz (by rw[hsize];omega) hlp (by rw[hzc,hsize];exact Dh _ _ _ us' hfl)
      have hrun:(execOp (Act.eval ⟨ts,[]⟩) ⟨some d,.buildSlice t len ps,ty,pos,af,gd⟩).run x.P W=.ok (.value (.slice (some ⟨W.heap.size,0,none⟩) len len)) (W.alloc (.cells us'.toArray e)):=by
       have e1:(ps.map fun(x:Nat×Operand)=>match x with | (i,x)=>(i,Act.eval ⟨ts,[]⟩ x))=(ps.toList.map fun p=>(p.1,Act.eval ⟨ts,[]⟩ p.2)).toArray:=by apply Array.ext';simp only[Array.toList_map]
       simp[execOp,e1,h1]
      have hul:us'.length=len*sz:=by
       have hinv:∀(vs:List (Nat×Value)) (cells out:List Value),lL (fun i=>some (i*sz,sz)) cells vs=some out->out.length=cells.length:=by
        intro vs
        induction vs with
        | nil=>
         intro cells out h
         simp[lL]at h
         rw[h]
        | cons p vs ih=>
         intro cells out h
         obtain⟨i0,v0⟩:=p
         unfold lL at h
         dsimp only at h
         cases hb:(Nat.beq v0.cells.toList.length sz&&Nat.ble (i0*sz+v0.cells.toList.length) cells.length)with
         | false=>rw[hb]at h;cases h
         | true=>
          rw[hb]at h
          rw[ih _ _ h]
          rw[Bool.and_eq_true]at hb
          have:=Kz hb.2
          unfold sN
          simp at this⊢
          omega
       rw[hinv _ _ _ hfl,Ao,hzz]
      have hle:len<=len*sz:=Nat.le_mul_of_pos_right _ (by omega)
      obtain⟨m1,m2⟩:=hR.made (t:=e) (z:=sz) (c:=len) r1 hrd (by
       have:Nat.beq sz 0=false:=by
        cases hq:Nat.beq sz 0
        ·rfl
        exact absurd (Nat.eq_of_beq_eq_true hq) hsp
       rw[this]
       exact hul) (by unfold maxLen;omega)
      refine eN hrun (kk _ _ _ _ _ ⟨rfl,rfl⟩ (m1.put d ?_) ((m2 (some d)).then_put _))
      refine jX ?_
      simp only[AR,hR.len,iT]
      exact⟨by simp,0,len,rfl,aX _,by omega,fun _=>rfl,fun _=>rfl⟩
     cases r4
    cases h
   cases h
  cases h
 cases h
end
section
variable {x:Cx}{g g':Nat->FV}{ob ob':List (Option Ob)}{cs cs':List Co}{ts ts':Array Value}{W W':World}{T:List (Nat×TI)}{Q:Post}{ops:Array Oper}{rest:List Oper}
variable {d:Nat}{ty:TypeId}{pos:String}{af:Array Edge}{gd:Option (Nat×Bool)}
inductive SrcA (ob:List (Option Ob)) (z:Nat):AV->Nat->List AV->Prop
 | fz {o:Bool}{t m:Nat}{l:List Tr}:SrcA ob z (.t (.s o t z m l)) m (l.map .t)
 | nil:SrcA ob z (tv (.slice none 0 0)) 0 []
 | sl {k o m t:Nat}{l news:List AV}(h:cR ob k=some ⟨t,z,l⟩) (hl:(l.drop o).take (m*z)=news) (hn:news.length=m*z):SrcA ob z (.sl k o m) m news
theorem SrcA.ok {z m:Nat}{a:AV}{news:List AV}(h:SrcA ob z a m news) (hr:fQ news=true) (hR:RelC x g ob cs ts W){u:Value}(hu:AR W (x.fr W ob cs) cs a u):
  ∃A c us,u=.slice A m c/\Rd W W.heap.size z A m c us/\ARL W (x.fr W ob cs) cs news us:=by
 cases h with
 | @fz o t m l=>
  simp only[AR,FR]at hu
  obtain⟨A,c,rfl,h1,h2,h3,h4⟩:=hu
  rcases h4 with h4 | ⟨ad,rfl,h5,h6⟩
  ·subst h4
   have:l=[]:=List.eq_nil_of_length_eq_zero (by simpa using h3)
   subst this
   exact⟨A,c,[],rfl,⟨by simp,h1,h2,fun h=>absurd h (by omega)⟩,by simp[ARL]⟩
  obtain⟨vs,v1,v2,v3⟩:=Ck (cs:=cs) (us:=l) (o:=0) h6 (by simp)
  rw[Gx]at v2
  exact⟨_,c,vs,rfl,⟨by rw[v1,h3],h1,h2,fun _=>⟨ad,rfl,h5.1.1,v2⟩⟩,v3⟩
 | nil=>
  simp only[tv,AR,FR]at hu
  subst hu
  exact⟨none,0,[],rfl,Rd.nil,by simp[ARL]⟩
 | @sl k o m t l news h hl hn=>
  have hk:=dL h
  simp only[AR]at hu
  cases hb:(co cs k).b with
  | none=>
   rw[hb]at hu
   obtain⟨_,rfl,rfl,rfl⟩:=hu
   have:news=[]:=List.eq_nil_of_length_eq_zero (by simpa using hn)
   subst this
   exact⟨none,0,[],rfl,Rd.nil,by simp[ARL]⟩
  | some b=>
   rw[hb]at hu
   obtain⟨_,o',c,rfl,h1,h2,h3,_⟩:=hu
   obtain⟨k1,_,_⟩:=hR.blk hk hb
   have hcl:=hR.crl hk
   have h4:=tT (mY (m*z) (pX o hcl)) (by rw[hl];exact hr)
   rw[hl]at h4
   refine⟨_,c,_,rfl,⟨by rw[iG h4,hn],h1,h2,fun h0=>?_⟩,h4⟩
   obtain rfl:=h3 (.inl h0)
   refine⟨_,rfl,hR.blkS hk b (by simp[aQ,hb]),fun j u hj=>?_⟩
   have hlt:j<m*z:=by
    have:=(List.getElem?_eq_some_iff.1 hj).1
    simp at this
    omega
   have h5:((co cs k).l.map VT.val)[o'+j]? =some u:=by
    rw[List.map_take,List.map_drop,List.getElem?_take,if_pos hlt,List.getElem?_drop]at hj
    exact hj
   have h6:=rN k1 h5
   rw[kM]at h6⊢
   simpa using h6
inductive DstA (ob:List (Option Ob)) (e z:Nat):AV->Nat->List (Option Ob)->List AV->Prop
 | nil:DstA ob e z (tv (.slice none 0 0)) 0 ob []
 | sl {k n:Nat}{l:List AV}(h:cR ob k=some ⟨e,z,l⟩) (hl:l.length=n*z):DstA ob e z (.sl k 0 n) n (ob.set k none) l
def OSE (E:List Co->Array Value->Prop) (x:Cx) (o:Oper) (g:Nat->FV) (ob:List (Option Ob)) (Wr:List Nat) (R:(Nat->FV)->List (Option Ob)->Prop):Prop:=
 ∀cs ts W,RelC x g ob cs ts W->E cs ts->∀(K:Act->World->Prop) (Q:Exit->Act->World->Prop),
  (∀g' ob' cs' ts' W',R g' ob'->RelC x g' ob' cs' ts' W'->Aft Wr o.dst ob cs ts W ob' cs' ts' W'->K ⟨ts',[]⟩ W')->o.wp x.P ⟨ts,[]⟩ W K Q
theorem Vy {E:List Co->Array Value->Prop}(hT:cH x.P T){t e z by_ n m j:Nat}{zz:Value}{ti:Bool}{ts0:Nat}{z0:List Value}{a b:Operand}{tys:Array TypeId}{av:AV}{l news:List AV}(ht:bX T t=some ⟨ti,ts0,z0,.sl e z by_ zz⟩) (ha:lk x.n g a=.one av)
  (hd:DstA ob e z av n ob' l) (hs:∀cs ts W,RelC x g ob cs ts W->E cs ts->∃us,us.length=m*z/\ARL W (x.fr W ob cs) cs news us/\∀v0 xs,Act.eval ⟨ts,[]⟩ a=v0->W.ownsRow 0 e z v0 n xs->∃A' c' w',(execOp (Act.eval ⟨ts,[]⟩) ⟨some d,.call ⟨.builtin .append, #[a,b],tys⟩,ty,pos,af,gd⟩).run x.P W=.ok (.value (.slice A' (n+m) c')) w'/\w'.ownsRow 0 e z (.slice A' (n+m) c') (n+m) (xs++us)/\W.grownBy w' v0.ownBlock/\((Value.slice A' (n+m) c').ownBlock=v0.ownBlock\/(Value.slice A' (n+m) c').ownBlock=some W.heap.size)) (hr:fQ news=true) (hj:eM ob j=true):
  ∃Wr,OSE E x ⟨some d,.call ⟨.builtin .append, #[a,b],tys⟩,ty,pos,af,gd⟩ g ob Wr (fun g' ob2=>g'=bG g d (.one (.sl j 0 (n+m)))/\ob2=ob'++[some ⟨e,z,l++news⟩])/\(∀k∈Wr,av=.sl k 0 n):=by
 have hel:=(dX hT ht).2.2.2.2
 have hj:=Nat.eq_of_beq_eq_true hj
 have hz0:z≠0:=by
  obtain⟨_,_,_,_,_,_,_,hsz⟩:=hel
  omega
 have hzb:Nat.beq z 0=false:=by
  cases hq:Nat.beq z 0
  ·rfl
  exact absurd (Nat.eq_of_beq_eq_true hq) hz0
 -- a row that is owned behind the append
 have shape:∀{A':Option Addr}{c' k:Nat}{w':World}{vs:List Value},w'.ownsRow 0 e z (.slice A' k c') k vs->(A'=none/\k=0/\c'=0/\vs=[])\/∃b rest,A'=some ⟨b,0,none⟩/\w'.heap[b]? =some (.cells (vs++rest).toArray e (0,0))/\(vs++rest).length=c'*z/\k<=c'/\c'<=maxLen:=by
  intro A' c' k w' vs h
  rcases h.2 with⟨h1,h2⟩ | ⟨b,cap,cur,h1,_,h2,h3,h4,h5,h6⟩
  ·injection h1 with e1 e2 e3
   refine .inl ⟨e1,e2,e3,?_⟩
   have:=h.1
   rw[h2]at this
   exact List.eq_nil_of_length_eq_zero (by simpa using this)
  injection h1 with e1 e2 e3
  subst e3
  refine .inr ⟨b,cur.toList.drop (k*z),e1,?_,?_,h3,h4⟩
  ·rw[<-h6,List.take_append_drop]
   simpa using h2
  rw[<-h6,List.take_append_drop]
  simpa using h5
 cases hd with
 | nil=>
  refine⟨[],?_,by simp⟩
  intro cs ts W hR hE K Q kk
  have h1:=hR.lk a
  rw[ha]at h1
  have h1:=bE h1
  obtain⟨us,hul,har,hrn⟩:=hs cs ts W hR hE
  obtain⟨A',c',w',hrun',q2,q3,q4⟩:=hrn _ [] h1 (World.ownsRow_nil W 0 e z)
  have hbel:Below W.heap.size W w':=⟨q3.os,q3.tape,q3.output,q3.size,fun k hk=>q3.block k hk (by simp[Value.ownBlock])⟩
  have hown0:∀c0:Co,(∀b∈(aQ (some ⟨e,z,[]++news⟩) c0).S,W.heap.size<=b)->∀b∈dO (ob++[some ⟨e,z,[]++news⟩]) (cs++[c0]),b∈dO ob cs\/W.heap.size<=b:=by
   intro c0 hS b hb
   unfold dO aL at hb
   rw[List.zipWith_append hR.len,List.flatMap_append,List.mem_append]at hb
   rcases hb with hb | hb
   ·exact .inl hb
   exact .inr (hS b (by simpa using hb))
  have hfin:∀(c0:Co) (hφ:(aQ (some ⟨e,z,[]++news⟩) c0).φ w') (hS:∀b∈(aQ (some ⟨e,z,[]++news⟩) c0).S,W.heap.size<=b/\b<w'.heap.size) (hn:(aQ (some ⟨e,z,[]++news⟩) c0).S.Nodup) (hl:c0.l=us.map .w) (hz:c0.b=none->[]++news=[]/\z≠0) (hv:AR w' (x.fr w' (ob++[some ⟨e,z,[]++news⟩]) (cs++[c0])) (cs++[c0]) (.sl j 0 (0+m)) (.slice A' (0+m) c')),K ⟨ts.setIfInBounds d (.slice A' (0+m) c'),[]⟩ w':=by
   intro c0 hφ hS hn hl hz hv
   have hown:=hown0 c0 (fun b hb=>(hS b hb).1)
   have m1:=hR.push hbel ⟨e,z,[]++news⟩ c0 hφ hS hn (by
    rw[hl]
    exact vS (ARL_keep (fun b h=>hbel.block b h.1.1) (fun b h=>wX h hbel.size hown) .app _ _ har) hr) hz
   exact kk _ _ _ _ _ ⟨rfl,rfl⟩ (m1.put d (jX hv)) ⟨.app,fun k _ hk=>pJ hk,hbel.size,fun b hlt _=>hbel.block b hlt,hown,fun i hi=>Array.getElem?_setIfInBounds_ne (fun e=>hi (by rw[e]))⟩
  refine eN hrun' ?_
  rcases shape q2 with⟨rfl,hk0,rfl,hvs⟩ | ⟨b',rest,rfl,s1,s2,s3,s4⟩
  ·have hus:us=[]:=by simpa using hvs
   subst hus
   have hnews:news=[]:=by
    have:=iG har
    exact List.eq_nil_of_length_eq_zero (by simpa using this.symm)
   refine hfin ⟨none,0,[]⟩ (by simp[aQ]) (by simp[aQ]) (by simp[aQ]) rfl (fun _=>⟨by simp[hnews],hz0⟩) ?_
   simp only[AR]
   rw[<-hj,hR.len,iT]
   exact⟨by simp,hk0,by trivial,by rw[hk0]⟩
  have hb':b'=W.heap.size:=by
   rcases q4 with q4 | q4
   ·simp[Value.ownBlock]at q4
   simpa[Value.ownBlock]using q4
  subst hb'
  refine hfin ⟨some W.heap.size,c',us.map .w⟩ ?_ ?_ (by simp[aQ,oP]) rfl (fun h=>by cases h) ?_
  ·simp only[aQ,wZ]
   refine⟨⟨rest,by simpa using s1,?_⟩,wY us,s4⟩
   rw[hzb,cond_false,<-s2]
   simp
  ·intro b hb
   simp[aQ,oP]at hb
   subst hb
   exact⟨aX _,(Array.getElem?_eq_some_iff.1 s1).1⟩
  simp only[AR]
  rw[<-hj,hR.len,iT]
  exact⟨by simp,0,c',rfl,s3,by unfold maxLen at s4;omega,fun _=>rfl,fun _=>rfl⟩
 | @sl k n l h hl=>
  refine⟨[k],?_,by simp⟩
  have hk:=dL h
  intro cs ts W hR hE K Q kk
  have h1:=hR.lk a
  rw[ha]at h1
  obtain⟨us,hul,har,hrn⟩:=hs cs ts W hR hE
  have hcl:=hR.crl hk
  have hl1:(co cs k).l.length=n*z:=by rw[rQ hcl];exact hl
  -- what it is owned as
  have hown:∃v0,Act.eval ⟨ts,[]⟩ a=v0/\W.ownsRow 0 e z v0 n ((co cs k).l.map VT.val)/\(∀b0,(co cs k).b=some b0->v0.ownBlock=some b0)/\((co cs k).b=none->v0.ownBlock=none):=by
   simp only[bV,cE,AR]at h1
   cases hbb:(co cs k).b with
   | none=>
    rw[hbb]at h1
    obtain⟨_,rfl,_,e1⟩:=h1
    refine⟨_,e1,⟨by simpa using hl1,.inl ⟨rfl,rfl⟩⟩,fun b0 h=>by(cases h),fun _=>rfl⟩
   | some b0=>
    rw[hbb]at h1
    obtain⟨_,o',c0,e1,h3,h4,h5,h6⟩:=h1
    obtain rfl:=h5 (.inr trivial)
    have h6:=h6 trivial
    obtain⟨⟨rest,k1,k1l⟩,k2,k3⟩:=hR.blk hk hbb
    dsimp only at k1 k1l
    rw[hzb,cond_false]at k1l
    refine⟨_,e1,⟨by simpa using hl1,.inr ⟨b0,c0,_,rfl,Nat.zero_le _,k1,h3,by rw[h6];exact k3,by rw[h6];simpa using k1l,?_⟩⟩,fun b1 h=>by(injection h with h;subst h;rfl),fun h=>by(cases h)⟩
    rw[<-hl1]
    simp
  obtain⟨v0,e1,hw,hob1,hob2⟩:=hown
  obtain⟨A',c',w',hrun',q2,q3,q4⟩:=hrn v0 _ e1 hw
  have hchg:Chg (aQ (some ⟨e,z,l⟩) (co cs k)).S W w':=⟨q3.os,q3.tape,q3.output,q3.size,fun j hj hne=>q3.block j hj (fun he=>hne (by
   cases hbb:(co cs k).b with
   | none=>rw[hob2 hbb]at he;cases he
   | some b0=>
    rw[hob1 b0 hbb]at he
    injection he with he
    simp[aQ,hbb,he]))⟩
  have hnd:(aQ (some ⟨e,z,l⟩) (co cs k)).S.Nodup:=hR.2.nd1 (List.mem_of_getElem? (cA hR.len hk))
  have hnS:∀b∈VT.fpL (co cs k).l,(co cs k).b≠none->b∈(aQ (some ⟨e,z,l⟩) (co cs k)).S:=fun b hb hne=>by
   cases hbb:(co cs k).b with
   | none=>exact absurd hbb hne
   | some b0=>simp[aQ,hbb,hb]
  have hfin:∀(c1:Co) (hφ:(aQ (some ⟨e,z,l++news⟩) c1).φ w') (hS:∀b∈(aQ (some ⟨e,z,l++news⟩) c1).S,b∈(aQ (some ⟨e,z,l⟩) (co cs k)).S\/(W.heap.size<=b/\b<w'.heap.size)) (hn:(aQ (some ⟨e,z,l++news⟩) c1).S.Nodup) (hl:c1.l=(co cs k).l++us.map .w) (hz:c1.b=none->l++news=[]/\z≠0) (hv:AR w' (x.fr w' (ob.set k none++[some ⟨e,z,l++news⟩]) (cs++[c1])) (cs++[c1]) (.sl j 0 (n+m)) (.slice A' (n+m) c')),K ⟨ts.setIfInBounds d (.slice A' (n+m) c'),[]⟩ w':=by
   intro c1 hφ hS hn hl hz hv
   obtain⟨m1,m2⟩:=hR.move hk ⟨e,z,l++news⟩ c1 hchg hφ hS hn (fun hk' hN=>by
    rw[hl]
    exact Ec (dI hk' hN .app _ _ hcl) (vS (ARL_keep hk' hN .app _ _ har) hr)) hz
   exact kk _ _ _ _ _ ⟨rfl,rfl⟩ (m1.put d (jX hv)) ((m2 (some d)).then_put _)
  refine eN hrun' ?_
  rcases shape q2 with⟨rfl,hk0,rfl,hvs⟩ | ⟨b',rest,rfl,s1,s2,s3,s4⟩
  ·have h7:(co cs k).l=[]/\us=[]:=by simpa using hvs
   have hl':l=[]:=List.eq_nil_of_length_eq_zero (by have:=rQ hcl;dsimp only at this;rw[h7.1]at this;simpa using this.symm)
   have hnews:news=[]:=List.eq_nil_of_length_eq_zero (by have:=iG har;rw[h7.2]at this;simpa using this.symm)
   refine hfin ⟨none,0,[]⟩ (by simp[aQ]) (by simp[aQ]) (by simp[aQ]) (by simp[h7.1,h7.2]) (fun _=>⟨by simp[hl',hnews],hz0⟩) ?_
   simp only[AR]
   rw[<-hj,hR.len,iT]
   exact⟨by simp,hk0,by trivial,by rw[hk0]⟩
  have hkb:(co cs k).b=none->(co cs k).l=[]:=fun hbb=>by
   have:=(hR.obs.2 k _ hk).2 hbb
   dsimp only at this
   have h8:=rQ hcl
   dsimp only at h8
   rw[this.1]at h8
   exact List.eq_nil_of_length_eq_zero (by simpa using h8)
  have hfpS:∀b∈VT.fpL (co cs k).l,b∈(aQ (some ⟨e,z,l⟩) (co cs k)).S:=fun b hb=>hnS b hb (fun hbb=>by rw[hkb hbb]at hb;simp[VT.fpL]at hb)
  have hb':(∃b0,(co cs k).b=some b0/\b'=b0)\/b'=W.heap.size:=by
   rcases q4 with q4 | q4
   ·cases hbb:(co cs k).b with
    | none=>rw[hob2 hbb]at q4;simp[Value.ownBlock]at q4
    | some b0=>
     rw[hob1 b0 hbb]at q4
     exact .inl ⟨b0,rfl,by simpa[Value.ownBlock]using q4⟩
   exact .inr (by simpa[Value.ownBlock]using q4)
  have hbn:b'∉VT.fpL (co cs k).l:=by
   intro hm
   rcases hb' with⟨b0,h8,rfl⟩ | rfl
   ·simp only[aQ,h8]at hnd
    exact(List.nodup_cons.1 hnd).1 hm
   have:=hR.blkS hk _ (hfpS _ hm)
   omega
  refine hfin ⟨some b',c',(co cs k).l++us.map .w⟩ ?_ ?_ ?_ rfl (fun h=>by cases h) ?_
  ·simp only[aQ,List.map_append,wZ]
   refine⟨⟨rest,s1,?_⟩,(sG _ _).2 ⟨VT.okL_keep _ (W:=W) (fun b hb=>?_) ?_,wY us⟩,s4⟩
   ·rw[hzb,cond_false,<-s2]
   ·refine q3.block b (hR.blkS hk b (hfpS b hb)) (fun he=>?_)
    cases hbb:(co cs k).b with
    | none=>rw[hob2 hbb]at he;cases he
    | some b0=>
     rw[hob1 b0 hbb]at he
     injection he with he
     subst he
     simp only[aQ,hbb]at hnd
     exact(List.nodup_cons.1 hnd).1 hb
   cases hbb:(co cs k).b with
   | none=>rw[hkb hbb];simp[VT.okL]
   | some b0=>exact(hR.blk hk hbb).2.1
  ·intro b hb
   simp only[aQ,oO,oP,List.append_nil]at hb
   rcases List.mem_cons.1 hb with rfl | hb
   ·rcases hb' with⟨b0,h8,rfl⟩ | rfl
    ·exact .inl (by simp[aQ,h8])
    exact .inr ⟨aX _,(Array.getElem?_eq_some_iff.1 s1).1⟩
   exact .inl (hfpS b hb)
  ·simp only[aQ,oO,oP,List.append_nil]
   refine List.nodup_cons.2 ⟨hbn,?_⟩
   cases hbb:(co cs k).b with
   | none=>rw[hkb hbb];simp[VT.fpL]
   | some b0=>
    simp only[aQ,hbb]at hnd
    exact(List.nodup_cons.1 hnd).2
  simp only[AR]
  rw[<-hj,hR.len,iT]
  exact⟨by simp,0,c',rfl,s3,by unfold maxLen at s4;omega,fun _=>rfl,fun _=>rfl⟩
theorem Vz {E:List Co->Array Value->Prop}(hT:cH x.P T){t e z by_ n m j:Nat}{zz:Value}{ti:Bool}{ts0:Nat}{z0:List Value}{a b:Operand}{av:AV}{l news:List AV}(ht:bX T t=some ⟨ti,ts0,z0,.sl e z by_ zz⟩) (ha:lk x.n g a=.one av)
  (hd:DstA ob e z av n ob' l) (hs:∀cs ts W,RelC x g ob cs ts W->E cs ts->∃A c us,Act.eval ⟨ts,[]⟩ b=.slice A m c/\Rd W W.heap.size z A m c us/\ARL W (x.fr W ob cs) cs news us) (hr:fQ news=true) (hlo:dR news=true) (hj:eM ob j=true) (hbytes:(n+m)*by_<=140737488355328) (h63:n+m<=140737488355328):
  ∃Wr,OSE E x ⟨some d,.call ⟨.builtin .append, #[a,b], #[t,t]⟩,ty,pos,af,gd⟩ g ob Wr (fun g' ob2=>g'=bG g d (.one (.sl j 0 (n+m)))/\ob2=ob'++[some ⟨e,z,l++news⟩])/\(∀k∈Wr,av=.sl k 0 n):=by
 exact Vy hT ht ha hd (fun cs ts W hR hE=>by
  obtain⟨A,c,us,e2,hrd,har⟩:=hs cs ts W hR hE
  refine⟨us,hrd.len,har,fun v0 xs e1 hw=>?_⟩
  obtain⟨A',c',w',hrun,q2,q3,q4⟩:=Tt (P:=x.P) W (dX hT ht).2.2.2.2 ty 0 v0 n xs hw W.heap.size A m c us hrd (xA har hlo) hbytes h63 (Nat.zero_le _)
  exact⟨A',c',w',by simp only[execOp,resolve,invoke,builtin,Sem.run_bind,Sem.run_pure,Result.andThen_ok,List.map_toArray,List.map_cons,List.map_nil,e1,e2,hrun],q2,q3,q4⟩) hr hj
theorem Rc (hT:cH x.P T){t e z by_ n m j:Nat}{zz:Value}{ti:Bool}{ts0:Nat}{z0:List Value}{a b:Operand}{av bv:AV}{l news:List AV}(ht:bX T t=some ⟨ti,ts0,z0,.sl e z by_ zz⟩) (ha:lk x.n g a=.one av) (hb:lk x.n g b=.one bv)
  (hd:DstA ob e z av n ob' l) (hs:SrcA ob z bv m news) (hr:fQ news=true) (hlo:dR news=true) (hj:eM ob j=true) (hbytes:(n+m)*by_<=140737488355328) (h63:n+m<=140737488355328):
  ∃Wr,OS x ⟨some d,.call ⟨.builtin .append, #[a,b], #[t,t]⟩,ty,pos,af,gd⟩ g ob Wr (fun g' ob2=>g'=bG g d (.one (.sl j 0 (n+m)))/\ob2=ob'++[some ⟨e,z,l++news⟩])/\(∀k∈Wr,av=.sl k 0 n):=by
 obtain⟨Wr,h,h2⟩:=Vz (x:=x) (g:=g) (E:=fun _ _=>True) (d:=d) (ty:=ty) (pos:=pos) (af:=af) (gd:=gd) (b:=b) hT ht ha hd (fun cs ts W hR _=>by
  have h2:=hR.lk b
  rw[hb]at h2
  exact hs.ok hr hR h2) hr hlo hj hbytes h63
 exact⟨Wr,fun cs ts W hR=>h cs ts W hR trivial,h2⟩
end
def aP (r:FV):List Lt->FV->Prop:=fun _ r'=>r'=r
def Yz (ob:List (Option Ob)):Nat->List Lt->Prop
 | _,[]=>True
 | i,a::l=>cR ob i=some a.ob/\Yz ob (i+1) l
def IB:List Lt->List Lt->Prop
 | [],[]=>True
 | a::l,b::l'=>(b.t=a.t/\b.z=a.z)/\IB l l'
 | _,_=>False
def Re (m:Nat):List Lt->Prop
 | []=>True
 | a::l=>refCs m a.l=true/\Re m l
theorem pE {m:Nat}:∀(l:List Tr),refCs m (l.map .t)=true
 | []=>rfl
 | x::l=>by simp[refCs,Cn,pE l]
theorem Mm {ob:List (Option Ob)}:∀{l:List Lt}{i j:Nat}{a:Lt},Yz ob i l->l[j]? =some a->cR ob (i+j)=some a.ob
 | [],_,_,_,_,h=>by simp at h
 | b::l,i,0,a,h,hj=>by
  simp at hj
  subst hj
  exact h.1
 | b::l,i,j+1,a,h,hj=>by
  have:=Mm (j:=j) h.2 (by simpa using hj)
  rwa[show i+1+j=i+(j+1) by omega]at this
theorem Rf:∀{l l':List Lt},IB l l'->l'.length=l.length/\∀(i:Nat) (a b:Lt),l[i]? =some a->l'[i]? =some b->b.t=a.t/\b.z=a.z
 | [],[],_=>⟨rfl,fun _ _ _ h=>by simp at h⟩
 | a::l,b::l',h=>by
  obtain⟨h1,h2⟩:=Rf h.2
  refine⟨by simp[h1],fun i a' b' ha hb=>?_⟩
  cases i with
  | zero=>
   simp at ha hb
   subst ha hb
   exact h.1
  | succ i=>exact h2 i a' b' (by simpa using ha) (by simpa using hb)
 | [],_::_,h=>h.elim
 | _::_,[],h=>h.elim
theorem Iu {m:Nat}:∀{l:List Lt},Re m l->∀a∈l,refCs m a.l=true
 | [],_,_,h=>by simp at h
 | b::l,h,a,ha=>by
  rcases List.mem_cons.1 ha with rfl | ha
  ·exact h.1
  exact Iu h.2 a ha
section
variable {m:Nat}{x:Cx}{g g':Nat->FV}{ob ob':List (Option Ob)}{T:List (Nat×TI)}{Q:Post}{ops:Array Oper}{rest:List Oper}{d:Nat}{ty:TypeId}{pos:String}{af:Array Edge}{gd:Option (Nat×Bool)}
theorem fn0 {fresh:Bool}{P:Program}{f:FuncId}{fn:Func}{c:Code}{n:Nat}{rv:List ResultVar}{args:List FV}{R:List Lt->FV->Prop}(hf:P.funcs[f]? =some fn) (hb:fn.body=some c) (hn:fn.ntmps=n) (hrv:fn.results.toList=rv) (hT:cH P T) (hle:Nat.ble args.length n=true)
  (h:∀N w c0,c0.length=0->WP ⟨P,N,[],w,n,c0⟩ c (bP (oD 0 args)) [] (rA ⟨P,N,[],w,n,c0⟩ T rv fresh [] R)):aE fresh P f [] args R:=by
 subst hn hrv
 refine Vt hf hb T hT hle ?_
 rintro⟨P',N,M,w,n,c0⟩ rfl rfl h0 hM
 obtain rfl:=hM rfl
 exact h N w c0 h0
theorem en {fresh:Bool}{rv:List ResultVar}{R:List Lt->FV->Prop}{e:Exit}{rs:List FV}{r:FV}{ks:List Nat}(he:e=.ret\/e=.normal) (res:sH T x.n g ob rv=some rs) (pk:Mi ob 0 rs r ks) (nd:ks.Nodup) (clean:fresh=true->nN r) (post:R [] r):rA x T rv fresh [] R e g ob:=by
 rcases he with rfl | rfl <;> exact⟨rs,r,ks,[],res,pk,nd,fun _ _=>Nat.zero_le _,rfl,fun _ _ _ h=>by simp at h,fun _ _ h=>by simp at h,fun _ h=>by simp at h,fun h=>⟨clean h,by simp⟩,post⟩
theorem Hj {fresh:Bool}{P:Program}{f:FuncId}{fn:Func}{c:Code}{n:Nat}{rv:List ResultVar}{lent:List Lt}{args:List FV}{R:List Lt->FV->Prop}(hf:P.funcs[f]? =some fn) (hb:fn.body=some c) (hn:fn.ntmps=n) (hrv:fn.results.toList=rv) (hT:cH P T) (hle:Nat.ble args.length n=true)
  (h:∀N M w c0,c0.length=lent.length->WP ⟨P,N,M,w,n,c0⟩ c (bP (oD 0 args)) (bR lent) (rA ⟨P,N,M,w,n,c0⟩ T rv fresh lent R)):aE fresh P f lent args R:=by
 subst hn hrv
 refine Vt hf hb T hT hle ?_
 rintro⟨P',N,M,w,n,c0⟩ rfl rfl h0 _
 exact h N M w c0 h0
theorem xY {fresh:Bool}{rv:List ResultVar}{R:List Lt->FV->Prop}{e:Exit}{rs:List FV}{r:FV}{ks:List Nat}{lent lent':List Lt}(he:e=.ret\/e=.normal) (res:sH T x.n g ob rv=some rs) (pk:Mi ob lent.length rs r ks) (nd:ks.Nodup) (far:∀k∈ks,lent.length<=k) (ty:IB lent lent') (obs:Yz ob 0 lent') (refs:Re lent.length lent') (clean:fresh=true->nN r/\∀a∈lent',nT a.l) (post:R lent' r):rA x T rv fresh lent R e g ob:=by
 obtain⟨t1,t2⟩:=Rf ty
 have h9:EndA x T rv fresh lent R g ob rs r ks lent':=⟨res,pk,nd,far,t1,t2,fun i a h=>by have:=Mm obs h;rwa[Nat.zero_add]at this,Iu refs,clean,post⟩
 rcases he with rfl | rfl <;> exact⟨rs,r,ks,lent',h9⟩
theorem bB {v r:FV}{ks:List Nat}(h:PkF ob m v r ks):Mi ob m [v] r ks:=.inl ⟨v,rfl,h⟩
theorem gP {a b r s:FV}{l:List FV}{ks:List Nat}(h:PkT ob m (a::b::l) [r,s] ks):Mi ob m (a::b::l) (.tup [r,s]) ks:=.inr ⟨by simp,_,rfl,h⟩
theorem lD {a b c r s t:FV}{ks:List Nat}(h:PkT ob m [a,b,c] [r,s,t] ks):Mi ob m [a,b,c] (.tup [r,s,t]) ks:=.inr ⟨by simp,_,rfl,h⟩
theorem Pb:Mi ob m [] (.tup []) []:=.inr ⟨by simp,_,rfl,.nil⟩
theorem bO (v:Value):PkF ob m (.one (tv v)) (.one (tv v)) []:=.one (.id rfl)
theorem XY {fresh:Bool}{f:FuncId}{args:List FV}{r v:FV}{aa:Array Operand}{ats:Array TypeId}(hw:bK ops x.n g gd=some true) (hS:aE fresh x.P f [] args (aP r)) (hf:CallOk x.P f) (ha:AL fresh x g ob aa.toList args) (hv:yF r=v) (k:WL x ops rest (bG g d v) ob Q):
  WL x ops (⟨some d,.call ⟨.value (.func f),aa,ats⟩,ty,pos,af,gd⟩::rest) g ob Q:=
 gY (Eg hS hf ha) hw (by rintro _ _ ⟨r',rfl,rfl,rfl⟩;rw[hv];exact k)
theorem aCR {t len key:Nat}{ps:Array (Nat×Operand)}(hT:cH x.P T) (hw:bK ops x.n g gd=some true) (h:Rb T x.n g t len key ps.toList ob=some ob') (k:WL x ops rest (bG g d (.one (.sl key 0 len))) ob' Q):WL x ops (⟨some d,.buildSlice t len ps,ty,pos,af,gd⟩::rest) g ob Q:=
 gY (LG hT h) hw (by rintro _ _ ⟨rfl,rfl⟩;exact k)
theorem fF {t e z by_ n m j:Nat}{zz:Value}{ti:Bool}{ts0:Nat}{z0:List Value}{a b:Operand}{av bv:AV}{l news:List AV}(hT:cH x.P T) (hw:bK ops x.n g gd=some true) (ht:bX T t=some ⟨ti,ts0,z0,.sl e z by_ zz⟩) (ha:lk x.n g a=.one av) (hb:lk x.n g b=.one bv)
  (hd:DstA ob e z av n ob' l) (hs:SrcA ob z bv m news) (hr:fQ news=true) (hlo:dR news=true) (hj:eM ob j=true) (hbytes:(n+m)*by_<=140737488355328) (h63:n+m<=140737488355328)
  (k:WL x ops rest (bG g d (.one (.sl j 0 (n+m)))) (ob'++[some ⟨e,z,l++news⟩]) Q):WL x ops (⟨some d,.call ⟨.builtin .append, #[a,b], #[t,t]⟩,ty,pos,af,gd⟩::rest) g ob Q:=by
 obtain⟨Wr,h,_⟩:=Rc (d:=d) (ty:=ty) (pos:=pos) (af:=af) (gd:=gd) hT ht ha hb hd hs hr hlo hj hbytes h63
 exact gY h hw (by rintro _ _ ⟨rfl,rfl⟩;exact k)
theorem WL.sub (h:Sub x g ob g' ob') (k:WL x ops rest g' ob' Q):WL x ops rest g ob Q:=fun ts W hR=>k ts W (h ts W hR)
end
end Go.Proofs.YtimiaildfkimfaaGreatDoor
