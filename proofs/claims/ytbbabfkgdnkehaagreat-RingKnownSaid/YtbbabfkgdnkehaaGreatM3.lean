/- Part 3 of a proof: Av10 to Av17. -/
import Derived.Test.YtbbabfkgdnkehaaGreatM2
set_option maxRecDepth 100000
set_option linter.unusedVariables false
set_option linter.unusedSimpArgs false
namespace Go.Proofs.YtbbabfkgdnkehaaGreat
open Go Go.RowKit
mutual
def gR (τ:List Nat):AV→Option AV
 | .t y=>some (.t y)
 | .sl k o n=>match τ[k]? with
  | some t=>some (.sl t o n)
  | none=>none
 | .pt k o=>match τ[k]? with
  | some t=>some (.pt t o)
  | none=>none
 | .ef l o=>some (.ef l o)
 | .fn f a b=>match renL τ a,renL τ b with
  | some a',some b'=>some (.fn f a' b')
  | _,_=>none
def renL (τ:List Nat):List AV→Option (List AV)
 | []=>some []
 | a::l=>match gR τ a,renL τ l with
  | some a',some l'=>some (a'::l')
  | _,_=>none
end
def Du (τ:List Nat):FV→Option FV
 | .any=>some .any
 | .one a=>match gR τ a with
  | some a'=>some (.one a')
  | none=>none
 | .agg l=>match renL τ l with
  | some l'=>some (.agg l')
  | none=>none
 | .tup _=>none
section
variable {W:World}{N N':Nat→Prop}{cs:List Co}{τ:List Nat}
theorem rB {k t:Nat}(h:τ[k]? =some t):co (τ.map (co cs)) k=co cs t:=by simp[co,h]
mutual
theorem wB (hN:∀b,N b→N' b):∀(a:AV) (a':AV) (u:Value),gR τ a=some a'→AR W N cs a' u→AR W N' (τ.map (co cs)) a u
 | .t y,a',u,h,hr=>by
  simp only[gR,Option.some.injEq]at h
  subst h
  simp only[AR]at hr⊢
  exact jU (fun _ _=>rfl) hN _ _ hr
 | .sl k o n,a',u,h,hr=>by
  simp only[gR]at h
  split at h
  ·rename_i t ht
   simp only[Option.some.injEq]at h
   subst h
   simp only[AR]at hr⊢
   rw[rB ht]
   exact⟨by simpa using(List.getElem?_eq_some_iff.1 ht).1,hr.2⟩
  cases h
 | .pt k o,a',u,h,hr=>by
  simp only[gR]at h
  split at h
  ·rename_i t ht
   simp only[Option.some.injEq]at h
   subst h
   simp only[AR]at hr⊢
   rw[rB ht]
   exact hr
  cases h
 | .ef l o,a',u,h,hr=>by
  simp only[gR,Option.some.injEq]at h
  subst h
  simp only[AR]at hr⊢
  obtain⟨ad,h1,h2,h3⟩:=hr
  exact⟨ad,hN _ h1,FRc_keep (fun _ _=>rfl) hN _ _ _ h1 h2,h3⟩
 | .fn f a b,a',u,h,hr=>by
  simp only[gR]at h
  split at h
  ·rename_i a1 b1 h1 h2
   simp only[Option.some.injEq]at h
   subst h
   simp only[AR]at hr⊢
   obtain⟨us,vs,e,r1,r2⟩:=hr
   exact⟨us,vs,e,ARL_ren hN a a1 us h1 r1,ARL_ren hN b b1 vs h2 r2⟩
  cases h
theorem ARL_ren (hN:∀b,N b→N' b):∀(l:List AV) (l':List AV) (us:List Value),renL τ l=some l'→ARL W N cs l' us→ARL W N' (τ.map (co cs)) l us
 | [],l',us,h,hr=>by
  simp only[renL,Option.some.injEq]at h
  subst h
  simpa[ARL]using hr
 | a::l,l',us,h,hr=>by
  simp only[renL]at h
  split at h
  ·rename_i a1 l1 h1 h2
   simp only[Option.some.injEq]at h
   subst h
   cases us with
   | nil=>simp only[ARL]at hr
   | cons u us=>
    simp only[ARL]at hr⊢
    exact⟨wB hN a a1 u h1 hr.1,ARL_ren hN l l1 us h2 hr.2⟩
  cases h
end
theorem Uq (hN:∀b,N b→N' b){v v':FV}{u:Value}(h:Du τ v=some v') (hr:bO W N cs v' u):bO W N' (τ.map (co cs)) v u:=by
 cases v with
 | any=>simp[bO,cD]
 | one a=>
  simp only[Du]at h
  split at h
  ·rename_i a' ha
   simp only[Option.some.injEq]at h
   subst h
   exact wB hN a a' u ha hr
  cases h
 | agg l=>
  simp only[Du]at h
  split at h
  ·rename_i l' hl
   simp only[Option.some.injEq]at h
   subst h
   obtain⟨us,e,r⟩:=hr
   exact⟨us,e,ARL_ren hN l l' us hl r⟩
  cases h
 | tup l=>simp[Du]at h
theorem TR (hN:∀b,N b→N' b){a a':AV}{y:VT}(h:gR τ a=some a') (hr:CR W N cs a' y):CR W N' (τ.map (co cs)) a y:=by
 cases a with
 | t z=>
  simp only[gR,Option.some.injEq]at h
  subst h
  simp only[CR]at hr⊢
  exact lL (fun _ _=>rfl) hN _ _ hr
 | sl k o n=>
  have h':=h
  simp only[gR]at h
  split at h
  ·simp only[Option.some.injEq]at h
   subst h
   cases y with
   | w u=>
    simp only[CR]at hr⊢
    exact wB hN _ _ u h' hr
   | s=>simp only[CR]at hr
   | p=>simp only[CR]at hr
  cases h
 | pt k o=>
  have h':=h
  simp only[gR]at h
  split at h
  ·simp only[Option.some.injEq]at h
   subst h
   cases y with
   | w u=>
    simp only[CR]at hr⊢
    exact wB hN _ _ u h' hr
   | s=>simp only[CR]at hr
   | p=>simp only[CR]at hr
  cases h
 | ef l o=>
  have h':=h
  simp only[gR,Option.some.injEq]at h
  subst h
  cases y with
  | w u=>
   simp only[CR]at hr⊢
   exact wB hN _ _ u h' hr
  | s=>simp only[CR]at hr
  | p=>simp only[CR]at hr
 | fn f l l2=>
  have h':=h
  simp only[gR]at h
  split at h
  ·simp only[Option.some.injEq]at h
   subst h
   cases y with
   | w u=>
    simp only[CR]at hr⊢
    exact wB hN _ _ u h' hr
   | s=>simp only[CR]at hr
   | p=>simp only[CR]at hr
  cases h
theorem Io (hN:∀b,N b→N' b):∀{l l':List AV}{ys:List VT},renL τ l=some l'→bU W N cs l' ys→bU W N' (τ.map (co cs)) l ys
 | [],l',ys,h,hr=>by
  simp only[renL,Option.some.injEq]at h
  subst h
  simpa[bU]using hr
 | a::l,l',ys,h,hr=>by
  simp only[renL]at h
  split at h
  ·rename_i a1 l1 h1 h2
   simp only[Option.some.injEq]at h
   subst h
   cases ys with
   | nil=>simp only[bU]at hr
   | cons y ys=>
    simp only[bU]at hr⊢
    exact⟨TR hN h1 hr.1,Io hN h2 hr.2⟩
  cases h
theorem Lw (l:List Tr):renL τ (l.map .t)=some (l.map .t):=by
 induction l with
 | nil=>rfl
 | cons y l ih=>simp[renL,gR,ih]
end
def bP:List (Nat×FV)→Nat→FV
 | [],_=>.any
 | (j,v)::l,i=>bif Nat.beq i j then v else bP l i
def tE (τ:List Nat) (g:Nat→FV):List (Nat×FV)→Prop
 | []=>True
 | (i,v)::l=>Du τ v=some (g i)∧tE τ g l
def Cg (τ:List Nat) (a:Option Ob) (o:Ob):Prop:=∃l,renL τ o.l=some l∧a=some ⟨o.t,o.z,l⟩
theorem oe {τ:List Nat}{a:Option Ob}{t z:Nat}{l l':List AV}(h:renL τ l=some l') (h2:a=some ⟨t,z,l'⟩):Cg τ a ⟨t,z,l⟩:=⟨l',h,h2⟩
theorem aB {τ:List Nat}{a:Option Ob}{t z:Nat}{l:List Tr}(h2:a=some ⟨t,z,l.map .t⟩):Cg τ a ⟨t,z,l.map .t⟩:=⟨_,Lw l,h2⟩
def jB (τ0:List Nat) (ob:List (Option Ob)):List Nat→List Ob→Prop
 | [],os=>os=[]
 | _::_,[]=>False
 | t::ts,o::os=>Cg τ0 (cT ob t) o∧jB τ0 ob ts os
section
variable {x:Cx}{g g':Nat→FV}{ob ob':List (Option Ob)}{cs cs':List Co}{ts ts':Array Value}{W W':World}
theorem Ut {W:World}{N N':Nat→Prop}{τ:List Nat}(hN:∀b,N b→N' b){u:Value}{i:Nat}(hu:bO W N cs (g i) u):∀{l:List (Nat×FV)},tE τ g l→bO W N' (τ.map (co cs)) (bP l i) u
 | [],_=>by simp[bP,bO,cD]
 | (j,v)::l,h=>by
  unfold bP
  cases hb:Nat.beq i j with
  | true=>
   have:=Nat.eq_of_beq_eq_true hb
   subst this
   exact Uq hN h.1 hu
  | false=>exact Ut hN hu h.2
theorem Ko {τ0:List Nat}:∀{ts:List Nat}{os:List Ob},jB τ0 ob ts os→os.length=ts.length
 | [],os,h=>by
  simp only[jB]at h
  simp[h]
 | t::ts,o::os,h=>by
  simp only[jB]at h
  simp[Ko h.2]
 | _::_,[],h=>by simp only[jB]at h
theorem Kq {τ0:List Nat}:∀{ts:List Nat}{os:List Ob}{k:Nat}{o:Ob},jB τ0 ob ts os→os[k]? =some o→∃t,ts[k]? =some t∧Cg τ0 (cT ob t) o
 | [],os,k,o,h,hk=>by
  simp only[jB]at h
  subst h
  simp at hk
 | t::ts,o'::os,0,o,h,hk=>by
  simp only[jB]at h
  simp at hk
  subst hk
  exact⟨t,rfl,h.1⟩
 | t::ts,o'::os,k+1,o,h,hk=>by
  simp only[jB]at h
  simpa using Kq h.2 (k:=k) (by simpa using hk)
 | _::_,[],_,_,h,_=>by simp only[jB]at h
theorem rC {t z:Nat}(l l':List AV){c:Co}:aR (some ⟨t,z,l⟩) c=aR (some ⟨t,z,l'⟩) c:=by
 obtain⟨b,c,ys⟩:=c
 cases b <;> rfl
theorem Kr {τ0:List Nat}(hlen:ob.length=cs.length):∀{ts:List Nat}{os:List Ob},jB τ0 ob ts os→aQ (os.map some) (ts.map (co cs))=pick (aQ ob cs) ts
 | [],os,h=>by
  simp only[jB]at h
  subst h
  rfl
 | t::ts,o::os,h=>by
  simp only[jB]at h
  obtain⟨⟨l,_,e⟩,h2⟩:=h
  have ih:=Kr hlen h2
  have e1:=cJ hlen (dM e)
  unfold aQ pick at ih⊢
  unfold aQ at e1
  simp only[List.map_cons,List.zipWith_cons_cons,List.filterMap_cons,e1,ih]
  rw[rC o.l l]
 | _::_,[],h=>by simp only[jB]at h
theorem su (τ:List Nat) (h0:∀k,k<x.c0.length→τ[k]? =some k) (live:List (Nat×FV)) (os:List Ob) (hn:τ.Nodup) (h1:tE τ g live) (h2:jB τ ob τ os):Sub x g ob (bP live) (os.map some):=by
 rintro ts W ⟨cs,hR⟩
 have hp:=Kr hR.len h2
 have hL:=(hR.2.pick τ hn).pickS []
 rw[←hp]at hL
 have hown:∀b∈eK (os.map some) (τ.map (co cs)),b∈eK ob cs:=by
  intro b hb
  unfold eK at hb
  rw[hp]at hb
  obtain⟨r,hr,hbr⟩:=List.mem_flatMap.1 hb
  obtain⟨i,_,hi⟩:=List.mem_filterMap.1 hr
  exact List.mem_flatMap.2 ⟨r,List.mem_of_getElem? hi,hbr⟩
 have hN:∀b,x.fr W ob cs b→x.fr W (os.map some) (τ.map (co cs)) b:=fun b hb=>⟨⟨hb.1.1,fun hm=>hb.1.2 (hown b hm)⟩,hb.2⟩
 refine⟨τ.map (co cs),.of hR.1 hL ⟨by simp[Ko h2],fun k o hk=>?_⟩ (fun i hi=>?_) ⟨?_,fun k hk=>?_⟩⟩
 ·have hk':os[k]? =some o:=by
   rw[List.getElem?_map]at hk
   cases hq:os[k]? with
   | none=>rw[hq]at hk;cases hk
   | some o'=>
    rw[hq]at hk
    simp at hk
    rw[hk]
  obtain⟨t,ht,l,hl,e⟩:=Kq h2 hk'
  have h3:=hR.obs.2 t _ (dM e)
  rw[rB ht]
  refine⟨Io hN hl h3.1,fun hb=>?_⟩
  obtain⟨e1,e2⟩:=h3.2 hb
  dsimp only at e1 e2
  subst e1
  refine⟨?_,e2⟩
  cases hol:o.l with
  | nil=>rfl
  | cons a r=>
   rw[hol]at hl
   simp only[renL]at hl
   split at hl
   ·cases hl
   cases hl
 ·obtain⟨u,e1,e2⟩:=hR.fv hi
  exact⟨u,e1,Ut hN e2 h1⟩
 ·rw[dB]
  rcases Nat.eq_zero_or_pos x.c0.length with h9 | h9
  ·omega
  have:=(List.getElem?_eq_some_iff.1 (h0 (x.c0.length-1) (by omega))).1
  omega
 rw[rB (h0 k hk)]
 exact hR.3.2 k hk
theorem sE {L:List Res}{j:Nat}{r r':Res}(h:L[j]? =some r) (b:Nat):((L.set j r').flatMap Res.S).count b+r.S.count b=(L.flatMap Res.S).count b+r'.S.count b:=by
 obtain⟨hlt,hget⟩:=List.getElem?_eq_some_iff.1 h
 have split:L=L.take j++r::L.drop (j+1):=by rw[←hget,List.getElem_cons_drop,List.take_append_drop]
 rw[List.set_eq_take_append_cons_drop,if_pos hlt]
 conv=>rhs;rw[split]
 simp only[List.flatMap_append,List.flatMap_cons,List.count_append]
 omega
theorem RelC.recut (h:RelC x g ob cs ts W) (hc:∀b,(eK ob' cs').count b≤(eK ob cs).count b) (hφ:∀r∈aQ ob' cs',r.φ W) (ho:(∀b,x.fr W ob cs b→x.fr W ob' cs' b)→Jw W (x.fr W ob' cs') cs' ob') (hs:Same cs cs'):RelC x g ob' cs' ts W∧∀b,x.fr W ob cs b→x.fr W ob' cs' b:=by
 have hin:∀b,b∈eK ob' cs'→b∈eK ob cs:=fun b hb=>List.count_pos_iff.1 (Nat.lt_of_lt_of_le (List.count_pos_iff.2 hb) (hc b))
 have hN:∀b,x.fr W ob cs b→x.fr W ob' cs' b:=fun b hb=>⟨⟨hb.1.1,fun hm=>hb.1.2 (hin b hm)⟩,hb.2⟩
 have hL:Loc x.M x.w W (aQ ob' cs') []:=⟨h.2.chg,hφ,fun b hb=>h.2.blk b (hin b hb),List.nodup_iff_count.2 fun b=>Nat.le_trans (hc b) (List.nodup_iff_count.1 h.2.nd b),fun _ h=>by cases h⟩
 refine⟨.of h.1 hL (ho hN) (fun i hi=>?_) (h.3.trans hs),hN⟩
 obtain⟨u,e1,e2⟩:=h.fv hi
 exact⟨u,e1,gI (fun _ _=>rfl) hN hs _ _ e2⟩
theorem wC {k:Nat}(hk:k<cs.length):cs.set k (co cs k)=cs:=by
 unfold co
 rw[gG hk]
 simp
theorem RelC.drop (h:RelC x g ob cs ts W){k:Nat}{o:Ob}(hk:ob[k]? =some (some o)):RelC x g (ob.set k none) cs ts W∧(∀b,x.fr W ob cs b→x.fr W (ob.set k none) cs b)∧∀b∈(aR (some o) (co cs k)).S,x.fr W (ob.set k none) cs b:=by
 have hkl:k<cs.length:=by
  have:=(List.getElem?_eq_some_iff.1 hk).1
  have:=h.len
  omega
 have e:aQ (ob.set k none) cs=(aQ ob cs).set k (aR none (co cs k)):=by
  have h1:=lC (ob:=ob) (cs:=cs) (k:=k) (o:=none) (c:=co cs k)
  rwa[wC hkl]at h1
 have hcnt:=sE (r':=aR none (co cs k)) (cJ h.len hk)
 rw[←e]at hcnt
 have e0:(aR none (co cs k)).S=[]:=by cases hb:(co cs k).b <;> simp[aR]
 simp only[e0,List.count_nil,Nat.add_zero]at hcnt
 obtain⟨m1,m2⟩:=h.recut (ob':=ob.set k none) (cs':=cs) (fun b=>by unfold eK;have:=hcnt b;omega) (fun r hr=>by
  rw[e]at hr
  rcases List.mem_or_eq_of_mem_set hr with hr | rfl
  ·exact h.2.res r hr
  cases hb:(co cs k).b <;> simp[aR]) (fun hN=>⟨by simp[h.len],fun j o hj=>by
  rw[List.getElem?_set]at hj
  split at hj
  ·split at hj
   ·simp at hj
   cases hj
  have h3:=h.obs.2 j o hj
  exact⟨dN (fun _ _=>rfl) hN .refl _ _ h3.1,h3.2⟩⟩) .refl
 refine⟨m1,m2,fun b hb=>?_⟩
 have hin:b∈(aQ ob cs).flatMap Res.S:=List.mem_flatMap.2 ⟨_,List.mem_of_getElem? (cJ h.len hk),hb⟩
 obtain⟨q1,q2⟩:=h.2.blk b hin
 refine⟨⟨q2,fun hm=>?_⟩,.inr q1⟩
 have h1:=List.nodup_iff_count.1 h.2.nd b
 have h2:=List.count_pos_iff.2 hm
 have h3:=List.count_pos_iff.2 hb
 have h4:=hcnt b
 omega
inductive FzA (a0:AV) (y:Tr):AV→AV→Prop
 | id {a:AV}:FzA a0 y a a
 | sl:FzA a0 y a0 (.t y)
inductive FzL (a0:AV) (y:Tr):List AV→List AV→Prop
 | nil:FzL a0 y [] []
 | cons {a a':AV}{l l':List AV}(h:FzA a0 y a a') (h':FzL a0 y l l'):FzL a0 y (a::l) (a'::l')
inductive FzF (a0:AV) (y:Tr):FV→FV→Prop
 | one {a a':AV}(h:FzA a0 y a a'):FzF a0 y (.one a) (.one a')
 | agg {l l':List AV}(h:FzL a0 y l l'):FzF a0 y (.agg l) (.agg l')
theorem FzL.ok {a0:AV}{y:Tr}{W:World}{N N':Nat→Prop}{cs:List Co}(key:∀v,AR W N cs a0 v→AR W N' cs (.t y) v) (keep:∀a v,AR W N cs a v→AR W N' cs a v):∀{l l':List AV},FzL a0 y l l'→∀{us:List Value},ARL W N cs l us→ARL W N' cs l' us
 | _,_,.nil,us,h=>by simpa[ARL]using h
 | _,_,.cons ha hl,[],h=>by simp only[ARL]at h
 | _,_,.cons ha hl,u::us,h=>by
  simp only[ARL]at h⊢
  refine⟨?_,FzL.ok key keep hl h.2⟩
  cases ha with
  | id=>exact keep _ _ h.1
  | sl=>exact key _ h.1
theorem FzF.ok {a0:AV}{y:Tr}{W:World}{N N':Nat→Prop}{cs:List Co}(key:∀v,AR W N cs a0 v→AR W N' cs (.t y) v) (keep:∀a v,AR W N cs a v→AR W N' cs a v){f f':FV}(h:FzF a0 y f f'){u:Value}(hu:bO W N cs f u):bO W N' cs f' u:=by
 cases h with
 | one h=>
  simp only[bO,cD]at hu⊢
  cases h with
  | id=>exact keep _ _ hu
  | sl=>exact key _ hu
 | agg h=>
  simp only[bO,cD]at hu⊢
  obtain⟨us,e,h1⟩:=hu
  exact⟨us,e,h.ok key keep h1⟩
theorem Po {i k:Nat}{a0:AV}{y:Tr}{o:Ob}{fv fv':FV}(hi:Nat.blt i x.n=true) (hg:g i=fv) (ho:cT ob k=some o) (hf:FzF a0 y fv fv') (hR:RelC x g ob cs ts W) (key:(∀b,x.fr W ob cs b→x.fr W (ob.set k none) cs b)→(∀b∈(aR (some o) (co cs k)).S,x.fr W (ob.set k none) cs b)→∀v,AR W (x.fr W ob cs) cs a0 v→AR W (x.fr W (ob.set k none) cs) cs (.t y) v):RelC x (bH g i fv') (ob.set k none) cs ts W∧∀b,x.fr W ob cs b→x.fr W (ob.set k none) cs b:=by
 have hi:i<x.n:=by simpa[Nat.blt,Nat.lt_iff_add_one_le]using hi
 obtain⟨m1,m2,m3⟩:=hR.drop (dM ho)
 obtain⟨u,e1,e2⟩:=hR.fv hi
 rw[hg]at e2
 have h9:=hf.ok (key m2 m3) (fun a v h=>jD (fun _ _=>rfl) m2 .refl a v h) e2
 have e3:ts.setIfInBounds i u=ts:=by
  apply Array.ext_getElem?
  intro j
  by_cases hj:i=j
  ·subst hj
   have:i<ts.size:=by rw[hR.1];exact hi
   rw[Array.getElem?_setIfInBounds_self_of_lt this,e1]
  rw[Array.getElem?_setIfInBounds_ne hj]
 have:=m1.put i h9
 rw[e3]at this
 exact⟨this,m2⟩
def Mb (x:Cx) (g:Nat→FV) (ob:List (Option Ob)) (k:Nat) (o:Ob) (a0:AV) (y:Tr):Prop:=∀cs ts W,RelC x g ob cs ts W→(∀b,x.fr W ob cs b→x.fr W (ob.set k none) cs b)→(∀b∈(aR (some o) (co cs k)).S,x.fr W (ob.set k none) cs b)→∀v,AR W (x.fr W ob cs) cs a0 v→AR W (x.fr W (ob.set k none) cs) cs (.t y) v
theorem Bd {i k:Nat}{a0:AV}{y:Tr}{o:Ob}{fv fv':FV}(hi:Nat.blt i x.n=true) (hg:g i=fv) (ho:cT ob k=some o) (hf:FzF a0 y fv fv') (key:Mb x g ob k o a0 y):Sub x g ob (bH g i fv') (ob.set k none):=fun _ _ ⟨cs,hR⟩=>⟨cs,(Po hi hg ho hf hR (key _ _ _ hR)).1⟩
theorem Ip {N:Nat→Prop}:∀{l:List Tr}{ys:List VT},bU W N cs (l.map .t) ys→ORL W N l ys
 | [],ys,h=>by simpa[bU,ORL]using h
 | y::l,[],h=>by simp only[List.map_cons,bU]at h
 | y::l,y'::ys,h=>by
  simp only[List.map_cons,bU,CR]at h
  simp only[ORL]
  exact⟨h.1,Ip h.2⟩
theorem Fa {k t z n:Nat}(t':Nat){l:List Tr}(ho:cT ob k=some ⟨t,z,l.map .t⟩) (hz:l.length=n*z):Mb x g ob k ⟨t,z,l.map .t⟩ (.sl k 0 n) (.s false t' z n l):=fun cs ts W hR m2 m3 u e2=>by
 have hk:=dM ho
 simp only[AR]at e2
 simp only[AR,FR]
 have hcl:=hR.crl hk
 dsimp only at hcl
 cases hbb:(co cs k).b with
 | none=>
  rw[hbb]at e2
  obtain⟨_,rfl,_,rfl⟩:=e2
  exact⟨none,0,rfl,bC _,by omega,by simpa using hz,.inl rfl⟩
 | some b=>
  rw[hbb]at e2
  obtain⟨_,o',c,rfl,h1,h2,h3,_⟩:=e2
  obtain rfl:=h3 (.inr trivial)
  obtain⟨k1,k2,k3⟩:=hR.blk hk hbb
  exact⟨_,c,rfl,h1,h2,hz,.inr ⟨_,rfl,m3 b (by simp[aR,hbb]),FRc_of_ORL m2 l _ (Ip hcl) k2 (fun b' hb'=>m3 b' (by simp[aR,hbb,hb'])) b _ _ [] _ k1 rfl⟩⟩
theorem Ub {i k t z n:Nat}{l:List Tr}{fv fv':FV}(hi:Nat.blt i x.n=true) (hg:g i=fv) (ho:cT ob k=some ⟨t,z,l.map .t⟩) (hz:l.length=n*z) (hf:FzF (.sl k 0 n) (.s false t z n l) fv fv'):Sub x g ob (bH g i fv') (ob.set k none):=Bd hi hg ho hf (Fa t ho hz)
theorem fz {i k t z n:Nat}{l:List Tr}(hi:Nat.blt i x.n=true) (hg:g i=.one (.sl k 0 n)) (ho:cT ob k=some ⟨t,z,l.map .t⟩) (hz:l.length=n*z):Sub x g ob (bH g i (.one (.t (.s false t z n l)))) (ob.set k none):=Ub hi hg ho hz (.one .sl)
theorem Kc {i k t:Nat}{l:List Tr}{fv fv':FV}(hi:Nat.blt i x.n=true) (hg:g i=fv) (ho:cT ob k=some ⟨t,0,l.map .t⟩) (hf:FzF (.pt k 0) (.p false t l) fv fv'):Sub x g ob (bH g i fv') (ob.set k none):=by
 refine Bd hi hg ho hf fun cs ts W hR m2 m3 u e2=>?_
 have hk:=dM ho
 simp only[AR]at e2
 simp only[AR,FR]
 have hcl:=hR.crl hk
 dsimp only at hcl
 obtain⟨b,hbb,rfl⟩:=e2
 obtain⟨k1,k2,k3⟩:=hR.blk hk hbb
 exact⟨_,rfl,m3 b (by simp[aR,hbb]),FRc_of_ORL m2 l _ (Ip hcl) k2 (fun b' hb'=>m3 b' (by simp[aR,hbb,hb'])) b _ _ [] _ k1 rfl⟩
end
structure Lt where
 t:Nat
 z:Nat
 l:List AV
def Lt.ob (a:Lt):Ob:=⟨a.t,a.z,a.l⟩
mutual
def zO (n:Nat):AV→Bool
 | .t _=>true
 | .sl k _ _=>Nat.blt k n
 | .pt k _=>Nat.blt k n
 | .ef _ _=>true
 | .fn _ a b=>refCs n a&&refCs n b
def refCs (n:Nat):List AV→Bool
 | []=>true
 | a::l=>zO n a&&refCs n l
end
section
variable {W:World}{N:Nat→Prop}{cs cs':List Co}{m:Nat}
def xT (m:Nat) (cs cs':List Co):Prop:=∀k,k<m→k<cs'.length∧co cs' k=co cs k
mutual
theorem BG (h:xT m cs cs'):∀(a:AV) (u:Value),zO m a=true→AR W N cs a u→AR W N cs' a u
 | .t y,u,_,hu=>by simpa only[AR]using hu
 | .sl k o n,u,hr,hu=>by
  simp only[zO,Nat.blt_eq]at hr
  simp only[AR]at hu⊢
  rw[(h k hr).2]
  exact⟨(h k hr).1,hu.2⟩
 | .pt k o,u,hr,hu=>by
  simp only[zO,Nat.blt_eq]at hr
  simp only[AR]at hu⊢
  rw[(h k hr).2]
  exact hu
 | .ef l o,u,_,hu=>by simpa only[AR]using hu
 | .fn f a b,u,hr,hu=>by
  simp only[zO,Bool.and_eq_true]at hr
  simp only[AR]at hu⊢
  obtain⟨us,vs,e,h1,h2⟩:=hu
  exact⟨us,vs,e,ARL_cut h a us hr.1 h1,ARL_cut h b vs hr.2 h2⟩
theorem ARL_cut (h:xT m cs cs'):∀(l:List AV) (us:List Value),refCs m l=true→ARL W N cs l us→ARL W N cs' l us
 | [],us,_,hu=>by simpa only[ARL]using hu
 | a::l,[],_,hu=>by simp only[ARL]at hu
 | a::l,u::us,hr,hu=>by
  simp only[refCs,Bool.and_eq_true]at hr
  simp only[ARL]at hu⊢
  exact⟨BG h a u hr.1 hu.1,ARL_cut h l us hr.2 hu.2⟩
end
theorem BH (h:xT m cs cs'){a:AV}{y:VT}(hr:zO m a=true) (hu:CR W N cs a y):CR W N cs' a y:=by
 cases a with
 | t x=>simpa only[CR]using hu
 | _=>
  cases y with
  | w u=>
   simp only[CR]at hu⊢
   exact BG h _ u hr hu
  | _=>simp only[CR]at hu
theorem Uu (h:xT m cs cs'):∀{l:List AV}{ys:List VT},refCs m l=true→bU W N cs l ys→bU W N cs' l ys
 | [],ys,_,hu=>by simpa only[bU]using hu
 | a::l,[],_,hu=>by simp only[bU]at hu
 | a::l,y::ys,hr,hu=>by
  simp only[refCs,Bool.and_eq_true]at hr
  simp only[bU]at hu⊢
  exact⟨BH h hr.1 hu.1,Uu h hr.2 hu.2⟩
end
def cB (lent:List Lt):List (Option Ob):=lent.map fun a=>some a.ob
def yK (W:World) (N:Nat→Prop) (cs:List Co):FV→Value→List VT→Prop
 | .one a,v,y=>∃z,y=[z]∧v=z.val∧CR W N cs a z
 | .agg l,v,y=>v=.agg (y.map VT.val).toArray∧bU W N cs l y
 | _,_,_=>False
def zP (W:World) (N:Nat→Prop) (cs:List Co):List FV→List Value→List VT→Prop
 | [],vs,y=>vs=[]∧y=[]
 | a::l,vs,y=>∃v vs' y1 y2,vs=v::vs'∧y=y1++y2∧yK W N cs a v y1∧zP W N cs l vs' y2
def RO (W:World) (N:Nat→Prop) (cs:List Co):FV→Value→List VT→Prop
 | .tup l,v,y=>∃vs,v=.tuple vs.toArray∧zP W N cs l vs y
 | r,v,y=>yK W N cs r v y
def jK (y:List VT):Res where
 S:=VT.fpL y
 φ:=fun W=>VT.okL W y
 loc:=fun W W' h hk=>VT.okL_keep _ h hk
section
variable {W W':World}{N N':Nat→Prop}{cs cs':List Co}
theorem Dv (hk:∀b,N b→W'.heap[b]? =W.heap[b]?) (hN:∀b,N b→N' b) (hc:Same cs cs'):∀{r:FV}{v:Value}{y:List VT},yK W N cs r v y→yK W' N' cs' r v y
 | .one a,v,y,⟨z,h1,h2,h3⟩=>⟨z,h1,h2,Gs hk hN hc a z h3⟩
 | .agg l,v,y,⟨h1,h2⟩=>⟨h1,dN hk hN hc l y h2⟩
 | .any,_,_,h=>h.elim
 | .tup _,_,_,h=>h.elim
theorem Pp (hk:∀b,N b→W'.heap[b]? =W.heap[b]?) (hN:∀b,N b→N' b) (hc:Same cs cs'):∀{r:List FV}{v:List Value}{y:List VT},zP W N cs r v y→zP W' N' cs' r v y
 | [],v,y,h=>h
 | a::l,v,y,⟨v1,vs,y1,y2,h1,h2,h3,h4⟩=>⟨v1,vs,y1,y2,h1,h2,Dv hk hN hc h3,Pp hk hN hc h4⟩
theorem sF (hk:∀b,N b→W'.heap[b]? =W.heap[b]?) (hN:∀b,N b→N' b) (hc:Same cs cs'):∀{r:FV}{v:Value}{y:List VT},RO W N cs r v y→RO W' N' cs' r v y
 | .one a,v,y,h=>Dv (r:=.one a) hk hN hc h
 | .agg l,v,y,h=>Dv (r:=.agg l) hk hN hc h
 | .any,_,_,h=>h.elim
 | .tup l,v,y,⟨vs,h1,h2⟩=>⟨vs,h1,Pp hk hN hc h2⟩
end
def BI (lent:List Lt) (cs:List Co) (args:List FV) (us:List Value):Sh where
 p:=fun W N=>Jw W N cs (cB lent)∧eG W N cs args us
 mono:=fun W N N' hN h=>⟨⟨h.1.1,fun k o hk=>⟨dN (fun _ _=>rfl) hN .refl _ _ (h.1.2 k o hk).1,(h.1.2 k o hk).2⟩⟩,lX (fun _ _=>rfl) hN .refl _ _ h.2⟩
 keep:=fun W W' N hk h=>⟨⟨h.1.1,fun k o he=>⟨dN hk (fun _ h=>h) .refl _ _ (h.1.2 k o he).1,(h.1.2 k o he).2⟩⟩,lX hk (fun _ h=>h) .refl _ _ h.2⟩
def TS (fresh:Bool) (lent:List Lt) (cs:List Co) (r:FV) (v:Value) (y:List VT):Sh where
 p:=fun W N=>Jw W (fun b=>fresh=false∧N b) cs (cB lent)∧RO W (fun b=>fresh=false∧N b) cs r v y
 mono:=fun W N N' hN h=>⟨⟨h.1.1,fun k o hk=>⟨dN (fun _ _=>rfl) (fun b h=>⟨h.1,hN b h.2⟩) .refl _ _ (h.1.2 k o hk).1,(h.1.2 k o hk).2⟩⟩,sF (fun _ _=>rfl) (fun b h=>⟨h.1,hN b h.2⟩) .refl h.2⟩
 keep:=fun W W' N hk h=>⟨⟨h.1.1,fun k o he=>⟨dN (fun b h=>hk b h.2) (fun _ h=>h) .refl _ _ (h.1.2 k o he).1,(h.1.2 k o he).2⟩⟩,sF (fun b h=>hk b h.2) (fun _ h=>h) .refl h.2⟩
def Ended (fresh:Bool) (N:Nat→Prop) (M:List Nat) (w:World) (lent:List Lt) (cs:List Co) (R:List Lt→FV→Prop) (e:Ending) (W:World):Prop:=
 ∃v lent' cs' r y,e=.returned v∧R lent' r∧lent'.length=lent.length∧(∀(i:Nat) (a b:Lt),lent[i]? =some a→lent'[i]? =some b→b.t=a.t∧b.z=a.z)∧cs'.length=cs.length∧Same cs cs'∧
  Loc M w W (aQ (cB lent') cs'++[jK y]) [(TS fresh lent' cs' r v y).on (fun b=>N b∨b∈M∨w.heap.size≤b)]
def aE (fresh:Bool) (P:Program) (f:FuncId) (lent:List Lt) (args:List FV) (R:List Lt→FV→Prop):Prop:=
 ∀(N:Nat→Prop) (w:World) (cs:List Co) (us:List Value),Loc ((aQ (cB lent) cs).flatMap Res.S) w w (aQ (cB lent) cs) [(BI lent cs args us).on N]→
  Calls P f us.toArray w (Ended fresh N ((aQ (cB lent) cs).flatMap Res.S) w lent cs R)
def lZ:Nat→List FV→List (Nat×FV)
 | _,[]=>[]
 | i,a::l=>(i,a)::lZ (i+1) l
theorem Pq {W:World}{N:Nat→Prop}{cs:List Co}:∀{l:List FV}{us:List Value}{j i:Nat},eG W N cs l us→(∀u,us[i]? =some u→bO W N cs (bP (lZ j l) (j+i)) u)
 | [],_,_,_,_=>fun u _=>by simp[lZ,bP,bO,cD]
 | a::l,[],_,_,h=>by simp only[eG]at h
 | a::l,u::us,j,0,h=>fun v hv=>by
  simp only[eG]at h
  simp at hv
  subst hv
  simp only[lZ,bP,Nat.add_zero,Nat.beq_refl,cond_true]
  exact vY h.1
 | a::l,u::us,j,i+1,h=>fun v hv=>by
  simp only[eG]at h
  have hb:Nat.beq (j+(i+1)) j=false:=by
   cases hq:Nat.beq (j+(i+1)) j
   ·rfl
   have:=Nat.eq_of_beq_eq_true hq
   omega
  simp only[lZ,bP,hb,cond_false]
  have:=Pq (j:=j+1) (i:=i) h.2 v (by simpa using hv)
  rwa[show j+1+i=j+(i+1) by omega]at this
theorem Pr:∀{l:List FV}{j i:Nat},l.length+j≤i→bP (lZ j l) i=.any
 | [],_,_,_=>rfl
 | a::l,j,i,h=>by
  simp only[List.length_cons]at h
  have hb:Nat.beq i j=false:=by
   cases hq:Nat.beq i j
   ·rfl
   have:=Nat.eq_of_beq_eq_true hq
   omega
  simp only[lZ,bP,hb,cond_false]
  exact Pr (j:=j+1) (by omega)
theorem Iq {W:World}{N:Nat→Prop}{cs:List Co}:∀{l:List FV}{us:List Value},eG W N cs l us→us.length=l.length
 | [],us,h=>by
  simp only[eG]at h
  simp[h]
 | a::l,u::us,h=>by
  simp only[eG]at h
  simp[Iq h.2]
 | _::_,[],h=>by simp only[eG]at h
inductive Pk (ob:List (Option Ob)) (m:Nat):AV→AV→List Nat→Prop
 | rf {a:AV}(h:zO m a=true) (hr:rA a=true):Pk ob m a a []
 | id {y:Tr}(h:rA (.t y)=true):Pk ob m (.t y) (.t y) []
 | sl {k n t z:Nat}{l:List AV}{trs:List Tr}(h:cT ob k=some ⟨t,z,l⟩) (hz:Nat.beq z 0=false) (hl:l.take (n*z)=trs.map .t) (hn:trs.length=n*z):Pk ob m (.sl k 0 n) (.t (.s true t z n trs)) [k]
 | nil {t z:Nat}:Pk ob m (.t (.v (.slice none 0 0))) (.t (.s true t z 0 [])) []
 | nilf {t z:Nat}:Pk ob m (.t (.v (.slice none 0 0))) (.t (.s false t z 0 [])) []
 | pt {k t:Nat}{trs:List Tr}(h:cT ob k=some ⟨t,0,trs.map .t⟩):Pk ob m (.pt k 0) (.t (.p true t trs)) [k]
inductive PkL (ob:List (Option Ob)) (m:Nat):List AV→List AV→List Nat→Prop
 | nil:PkL ob m [] [] []
 | cons {a a':AV}{l l':List AV}{k ks:List Nat}(h:Pk ob m a a' k) (h':PkL ob m l l' ks):PkL ob m (a::l) (a'::l') (k++ks)
theorem PkL.read (ob:List (Option Ob)){m:Nat}:∀{l:List Tr},gU (l.map .t)=true→PkL ob m (l.map .t) (l.map .t) []
 | [],_=>.nil
 | y::l,h=>by
  simp only[List.map_cons,gU,Bool.and_eq_true]at h
  exact .cons (k:=[]) (.id h.1) (PkL.read ob h.2)
inductive PkF (ob:List (Option Ob)) (m:Nat):FV→FV→List Nat→Prop
 | one {a a':AV}{k:List Nat}(h:Pk ob m a a' k):PkF ob m (.one a) (.one a') k
 | agg {l l':List AV}{k:List Nat}(h:PkL ob m l l' k):PkF ob m (.agg l) (.agg l') k
inductive PkT (ob:List (Option Ob)) (m:Nat):List FV→List FV→List Nat→Prop
 | nil:PkT ob m [] [] []
 | cons {a a':FV}{l l':List FV}{k ks:List Nat}(h:PkF ob m a a' k) (h':PkT ob m l l' ks):PkT ob m (a::l) (a'::l') (k++ks)
section
variable {x:Cx}{g g':Nat→FV}{ob ob':List (Option Ob)}{cs cs':List Co}{ts ts':Array Value}{W W':World}
theorem wD {N:Nat→Prop}:∀{l:List Tr}{ys:List VT},bU W N cs (l.map .t) ys→ORL W N l ys
 | [],ys,h=>by simpa[bU,ORL]using h
 | y::l,[],h=>by simp only[List.map_cons,bU]at h
 | y::l,y'::ys,h=>by
  simp only[List.map_cons,bU,CR]at h
  simp only[ORL]
  exact⟨h.1,wD h.2⟩
theorem Ir {N:Nat→Prop}:∀{l:List Tr}{ys:List VT},ORL W N l ys→bU W N cs (l.map .t) ys
 | [],ys,h=>by simpa[bU,ORL]using h
 | y::l,[],h=>by simp only[ORL]at h
 | y::l,y'::ys,h=>by
  simp only[ORL]at h
  simp only[List.map_cons,bU,CR]
  exact⟨h.1,Ir h.2⟩
theorem Dw:∀(l:List VT) (n:Nat),(VT.fpL (l.take n)).Sublist (VT.fpL l)
 | [],n=>by simp
 | y::l,0=>by simp[VT.fpL]
 | y::l,n+1=>by
  simp only[List.take_succ_cons,VT.fpL]
  exact List.Sublist.append (List.Sublist.refl _) (Dw l n)
theorem pC (l:List VT) (n:Nat):(l.take n).map VT.val++(l.drop n).map VT.val=l.map VT.val:=by
 rw[←List.map_append,List.take_append_drop]
theorem Pk.ok {m:Nat}{N':Nat→Prop}(hcs:xT m cs cs') (hR:RelC x g ob cs ts W) (hN:∀b,x.fr W ob cs b→N' b){a a':AV}{ks:List Nat}(h:Pk ob m a a' ks){u:Value}(hu:AR W (x.fr W ob cs) cs a u):
  ∃y,u=y.val∧CR W N' cs' a' y∧y.ok W∧y.fp.Sublist (ks.flatMap fun k=>(aR (cT ob k) (co cs k)).S):=by
 cases h with
 | rf h hr=>
  have h1:=BH hcs h (Xo hu hr)
  exact⟨.w u,rfl,Gs (fun _ _=>rfl) hN .refl _ _ h1,by simp[VT.ok],by simp[VT.fp]⟩
 | id h=>
  have h1:=Xo (cs:=cs) hu h
  refine⟨.w u,rfl,?_,by simp[VT.ok],by simp[VT.fp]⟩
  simp only[CR]at h1⊢
  exact lL (fun _ _=>rfl) hN _ _ h1
 | nil=>
  simp only[AR,FR]at hu
  subst hu
  refine⟨.w (.slice none 0 0),rfl,?_,by simp[VT.ok],by simp[VT.fp]⟩
  simp only[CR,OR]
  exact .inl ⟨trivial,trivial,trivial,trivial⟩
 | nilf=>
  simp only[AR,FR]at hu
  subst hu
  refine⟨.w (.slice none 0 0),rfl,?_,by simp[VT.ok],by simp[VT.fp]⟩
  simp[CR,OR,FR]
  exact⟨none,0,⟨rfl,rfl⟩,by omega⟩
 | @sl k n t z l trs h hz hl hn=>
  have hk:=dM h
  have hcl:=hR.crl hk
  have hz0:z≠0:=fun e=>by subst e;simp at hz
  have hl':l.length≥n*z:=by
   have:=congrArg List.length hl
   simp at this
   omega
  have ho:ORL W N' trs ((co cs k).l.take (n*z)):=by
   have:=lB (n*z) hcl
   dsimp only at this
   rw[hl]at this
   exact ORL_keep (fun _ _=>rfl) hN _ _ (wD this)
  simp only[AR]at hu
  cases hb:(co cs k).b with
  | none=>
   rw[hb]at hu
   obtain⟨_,rfl,_,rfl⟩:=hu
   refine⟨.w (.slice none 0 0),rfl,?_,by simp[VT.ok],by simp[VT.fp]⟩
   simp only[CR,OR]
   refine .inl ⟨trivial,trivial,?_,trivial⟩
   simpa using hn
  | some b=>
   rw[hb]at hu
   obtain⟨_,o',c,rfl,h1,h2,h9,h3⟩:=hu
   obtain rfl:=h9 (.inr trivial)
   obtain⟨⟨rest,k1,k1l⟩,k2,k3⟩:=hR.blk hk hb
   have hc:=h3 trivial
   subst hc
   refine⟨.s b (co cs k).c t z n ((co cs k).l.take (n*z)),rfl,?_,?_,?_⟩
   ·simp only[CR,OR]
    exact⟨trivial,trivial,trivial,trivial,ho⟩
   ·simp only[VT.ok]
    refine⟨⟨((co cs k).l.drop (n*z)).map VT.val++rest,?_,?_⟩,h1,k3,by rw[Al ho,hn],xR _ _ k2⟩
    ·rw[←List.append_assoc,pC]
     exact k1
    rw[←List.append_assoc,pC,k1l]
    dsimp only
    rw[hz,cond_false]
   simp only[VT.fp,List.flatMap_cons,List.flatMap_nil,List.append_nil,h,aR,hb]
   exact(Dw _ _).cons_cons b
 | @pt k t trs h=>
  have hk:=dM h
  have hcl:=hR.crl hk
  simp only[AR]at hu
  obtain⟨b,hb,rfl⟩:=hu
  obtain⟨⟨rest,k1,k1l⟩,k2,k3⟩:=hR.blk hk hb
  refine⟨.p b t (co cs k).l,rfl,?_,?_,?_⟩
  ·simp only[CR,OR]
   exact⟨trivial,trivial,ORL_keep (fun _ _=>rfl) hN _ _ (wD hcl)⟩
  ·simp only[VT.ok]
   exact⟨⟨rest,k1,by rw[k1l];rfl⟩,k2⟩
  simp only[VT.fp,List.flatMap_cons,List.flatMap_nil,List.append_nil,h,aR,hb]
  exact List.Sublist.refl _
theorem PkL.ok {m:Nat}{N':Nat→Prop}(hcs:xT m cs cs') (hR:RelC x g ob cs ts W) (hN:∀b,x.fr W ob cs b→N' b):∀{l l':List AV}{ks:List Nat},PkL ob m l l' ks→∀{us:List Value},ARL W (x.fr W ob cs) cs l us→
  ∃ys:List VT,us=ys.map VT.val∧bU W N' cs' l' ys∧VT.okL W ys∧(VT.fpL ys).Sublist (ks.flatMap fun k=>(aR (cT ob k) (co cs k)).S)
 | _,_,_,.nil,us,hu=>by
  simp only[ARL]at hu
  exact⟨[],by simp[hu],by simp[bU],by simp[VT.okL],by simp[VT.fpL]⟩
 | _,_,_,.cons h h',[],hu=>by simp only[ARL]at hu
 | _,_,_,.cons h h',u::us,hu=>by
  simp only[ARL]at hu
  obtain⟨y,e1,e2,e3,e4⟩:=h.ok hcs hR hN hu.1
  obtain⟨ys,f1,f2,f3,f4⟩:=PkL.ok hcs hR hN h' hu.2
  refine⟨y::ys,by simp[e1,f1],by simp only[bU];exact⟨e2,f2⟩,by simp only[VT.okL];exact⟨e3,f3⟩,?_⟩
  simp only[VT.fpL,List.flatMap_append]
  exact e4.append f4
theorem PkF.ok {m:Nat}{N':Nat→Prop}(hcs:xT m cs cs') (hR:RelC x g ob cs ts W) (hN:∀b,x.fr W ob cs b→N' b){r r':FV}{ks:List Nat}(h:PkF ob m r r' ks){u:Value}(hu:cD W (x.fr W ob cs) cs r u):
  ∃ys:List VT,yK W N' cs' r' u ys∧VT.okL W ys∧(VT.fpL ys).Sublist (ks.flatMap fun k=>(aR (cT ob k) (co cs k)).S):=by
 cases h with
 | one h=>
  obtain⟨y,e1,e2,e3,e4⟩:=h.ok hcs hR hN hu
  exact⟨[y],⟨y,rfl,e1,e2⟩,by simp only[VT.okL];exact⟨e3,trivial⟩,by simpa[VT.fpL]using e4⟩
 | agg h=>
  obtain⟨us,rfl,hu⟩:=hu
  obtain⟨ys,f1,f2,f3,f4⟩:=h.ok hcs hR hN hu
  exact⟨ys,⟨by rw[f1],f2⟩,f3,f4⟩
theorem PkT.ok {m:Nat}{N':Nat→Prop}(hcs:xT m cs cs') (hR:RelC x g ob cs ts W) (hN:∀b,x.fr W ob cs b→N' b):∀{r r':List FV}{ks:List Nat},PkT ob m r r' ks→∀{us:List Value},eG W (x.fr W ob cs) cs r us→
  ∃ys:List VT,zP W N' cs' r' us ys∧VT.okL W ys∧(VT.fpL ys).Sublist (ks.flatMap fun k=>(aR (cT ob k) (co cs k)).S)
 | _,_,_,.nil,us,hu=>by
  simp only[eG]at hu
  exact⟨[],⟨hu,rfl⟩,by simp[VT.okL],by simp[VT.fpL]⟩
 | _,_,_,.cons h h',[],hu=>by simp only[eG]at hu
 | _,_,_,.cons h h',u::us,hu=>by
  simp only[eG]at hu
  obtain⟨y,e2,e3,e4⟩:=h.ok hcs hR hN hu.1
  obtain⟨ys,f2,f3,f4⟩:=PkT.ok hcs hR hN h' hu.2
  refine⟨y++ys,⟨u,us,y,ys,rfl,rfl,e2,f2⟩,(qG _ _).2 ⟨e3,f3⟩,?_⟩
  rw[mQ,List.flatMap_append]
  exact e4.append f4
end
mutual
def nZ:Tr→Prop
 | .v _=>True
 | .s o _ _ n l=>(o=true∧NoFrL l)∨(o=false∧n=0)
 | .p o _ l=>o=true∧NoFrL l
 | .f _ _ _=>False
 | .a _=>False
def NoFrL:List Tr→Prop
 | []=>True
 | y::l=>nZ y∧NoFrL l
end
mutual
theorem Ps {W:World}{N N':Nat→Prop}:∀(x:Tr) (y:VT),nZ x→OR W N x y→OR W N' x y
 | .v x,y,_,h=>by simpa[OR]using h
 | .s o t z n l,.w u,hn,h=>by
  simp only[OR]at*
  rcases h with h | ⟨rfl,h⟩
  ·exact .inl h
  simp only[nZ]at hn
  rcases hn with⟨hn,_⟩ | ⟨_,rfl⟩
  ·cases hn
  refine .inr ⟨rfl,?_⟩
  simp only[FR]at*
  obtain⟨A,c,h1,h2,h3,h4,_⟩:=h
  exact⟨A,c,h1,h2,h3,h4,.inl trivial⟩
 | .s o t z n l,.s _ _ _ _ _ l',hn,h=>by
  simp only[OR]at*
  simp only[nZ]at hn
  rcases hn with⟨_,hn⟩ | ⟨rfl,_⟩
  ·exact⟨h.1,h.2.1,h.2.2.1,h.2.2.2.1,ORL_clean l l' hn h.2.2.2.2⟩
  cases h.1
 | .s ..,.p ..,_,h=>by simp only[OR]at h
 | .p o t l,.w u,hn,h=>by
  simp only[OR]at h
  simp only[nZ]at hn
  rw[hn.1]at h
  cases h.1
 | .p o t l,.p _ _ l',hn,h=>by
  simp only[OR]at*
  simp only[nZ]at hn
  exact⟨h.1,h.2.1,ORL_clean l l' hn.2 h.2.2⟩
 | .p ..,.s ..,_,h=>by simp only[OR]at h
 | .f ..,y,hn,h | .a ..,y,hn,h=>by simp only[nZ]at hn
theorem ORL_clean {W:World}{N N':Nat→Prop}:∀(l:List Tr) (l':List VT),NoFrL l→ORL W N l l'→ORL W N' l l'
 | [],l',_,h=>by simpa[ORL]using h
 | x::l,y::l',hn,h=>by
  simp only[ORL]at*
  simp only[NoFrL]at hn
  exact⟨Ps x y hn.1 h.1,ORL_clean l l' hn.2 h.2⟩
 | _::_,[],_,h=>by simp only[ORL]at h
end
def uH:AV→Prop
 | .t y=>nZ y
 | .sl _ _ _=>True
 | .pt _ _=>True
 | _=>False
def mJ:List AV→Prop
 | []=>True
 | a::l=>uH a∧mJ l
def rD:FV→Prop
 | .one a=>uH a
 | .agg l=>mJ l
 | _=>False
def Fs:List FV→Prop
 | []=>True
 | a::l=>rD a∧Fs l
def lD:FV→Prop
 | .tup l=>Fs l
 | v=>rD v
section
variable {W:World}{N N':Nat→Prop}{cs cs':List Co}
theorem Pt:∀{a:AV}{y:VT},uH a→CR W N cs a y→CR W N' cs a y
 | .t x,y,hn,h=>by
  simp only[CR]at*
  exact Ps x y hn h
 | .sl ..,.w u,_,h | .pt ..,.w u,_,h=>by simpa only[CR,AR]using h
 | .sl ..,.s ..,_,h | .sl ..,.p ..,_,h | .pt ..,.s ..,_,h | .pt ..,.p ..,_,h=>by simp only[CR]at h
theorem zQ:∀{l:List AV}{ys:List VT},mJ l→bU W N cs l ys→bU W N' cs l ys
 | [],ys,_,h=>by simpa[bU]using h
 | a::l,[],_,h=>by simp only[bU]at h
 | a::l,y::ys,hn,h=>by
  simp only[bU]at*
  simp only[mJ]at hn
  exact⟨Pt hn.1 h.1,zQ hn.2 h.2⟩
theorem zR:∀{r:FV}{v:Value}{y:List VT},rD r→yK W N cs r v y→yK W N' cs r v y
 | .one a,v,y,hn,⟨z,h1,h2,h3⟩=>⟨z,h1,h2,Pt hn h3⟩
 | .agg l,v,y,hn,⟨h1,h2⟩=>⟨h1,zQ hn h2⟩
theorem Ks:∀{r:List FV}{v:List Value}{y:List VT},Fs r→zP W N cs r v y→zP W N' cs r v y
 | [],v,y,_,h=>h
 | a::l,v,y,hn,⟨v1,vs,y1,y2,h1,h2,h3,h4⟩=>by
  simp only[Fs]at hn
  exact⟨v1,vs,y1,y2,h1,h2,zR hn.1 h3,Ks hn.2 h4⟩
theorem HS:∀{r:FV}{v:Value}{y:List VT},lD r→RO W N cs r v y→RO W N' cs r v y
 | .one a,v,y,hn,h=>zR (r:=.one a) hn h
 | .agg l,v,y,hn,h=>zR (r:=.agg l) hn h
 | .tup l,v,y,hn,⟨vs,h1,h2⟩=>⟨vs,h1,Ks hn h2⟩
theorem TT {r:FV}{v:Value}{y:List VT}(h:yK W N cs r v y):RO W N cs r v y:=by
 cases r <;> first | exact h | exact h.elim
end
def uS (T:List (Nat×TI)) (n:Nat) (g:Nat→FV) (ob:List (Option Ob)):List ResultVar→Option (List FV)
 | []=>some []
 | .tmp t::l=>match Nat.blt t n,uS T n g ob l with
  | true,some r=>some (g t::r)
  | _,_=>none
 | .cell t ty::l=>match cP T ty,uS T n g ob l with
  | some i,some r=>match tD ob i (lk n g (.tmp t))with
   | some (_,v)=>some (v::r)
   | none=>none
  | _,_=>none
def Pu (ob:List (Option Ob)) (m:Nat) (rs:List FV) (r:FV) (ks:List Nat):Prop:=(∃v,rs=[v]∧PkF ob m v r ks)∨(rs.length≠1∧∃l,r=.tup l∧PkT ob m rs l ks)
structure EndA (x:Cx) (T:List (Nat×TI)) (rv:List ResultVar) (fresh:Bool) (lent:List Lt) (R:List Lt→FV→Prop) (g:Nat→FV) (ob:List (Option Ob)) (rs:List FV) (r:FV) (ks:List Nat) (lent':List Lt):Prop where
 res:uS T x.n g ob rv=some rs
 pk:Pu ob lent.length rs r ks
 nd:ks.Nodup
 far:∀k∈ks,lent.length≤k
 len:lent'.length=lent.length
 ty:∀(i:Nat) (a b:Lt),lent[i]? =some a→lent'[i]? =some b→b.t=a.t∧b.z=a.z
 obs:∀(i:Nat) (a:Lt),lent'[i]? =some a→cT ob i=some a.ob
 refs:∀a∈lent',refCs lent.length a.l=true
 clean:fresh=true→lD r∧∀a∈lent',mJ a.l
 post:R lent' r
def rH (x:Cx) (T:List (Nat×TI)) (rv:List ResultVar) (fresh:Bool) (lent:List Lt) (R:List Lt→FV→Prop):Post
 | .ret,g,ob | .normal,g,ob=>∃rs r ks lent',EndA x T rv fresh lent R g ob rs r ks lent'
 | _,_,_=>False
section
variable {x:Cx}{g g':Nat→FV}{ob ob':List (Option Ob)}{cs cs':List Co}{ts ts':Array Value}{W W':World}{T:List (Nat×TI)}
def Pv (P:Program) (ts:Array Value) (w:World):List ResultVar→List Value→Prop
 | [],vs=>vs=[]
 | _::_,[]=>False
 | r::rs,v::vs=>RV P ts w r v∧Pv P ts w rs vs
def wE (ts:Array Value):ResultVar→Sem Value
 | .tmp t=>pure (ts.getD t undef)
 | .cell a t=>do loadVar t (←asAddr (ts.getD a undef))
theorem BJ {P:Program}{r:ResultVar}{v:Value}(h:RV P ts W r v):(wE ts r).run P W=.ok v W:=by
 cases r with
 | tmp t=>
  have h1:ts[t]? =some v:=h
  simp[wE,h1]
 | cell t ty=>
  obtain⟨ad,e1,e2⟩:=h
  simp[wE,e1,asAddr,e2]
theorem Uv {P:Program}:∀{rs:List ResultVar}{vs:List Value},Pv P ts W rs vs→(rs.mapM (wE ts)).run P W=.ok vs W
 | [],vs,h=>by
  simp only[Pv]at h
  subst h
  rfl
 | r::rs,[],h=>by simp only[Pv]at h
 | r::rs,v::vs,h=>by
  simp only[Pv]at h
  rw[List.mapM_cons]
  simp only[Sem.run_bind,BJ h.1,Result.andThen_ok,Uv h.2,Sem.run_pure]
theorem Si {P:Program}{fn:Func}{vs:List Value}(h:Pv P ts W fn.results.toList vs):(results fn ts).run P W=.ok (if h:vs.toArray.size=1 then vs.toArray[0]else .tuple vs.toArray) W:=by
 have h2:(fn.results.mapM (wE ts)).run P W=.ok vs.toArray W:=by
  rw[Array.mapM_eq_mapM_toList,Sem.run_map,Uv h]
  rfl
 have e:results fn ts=(do
   let vs←fn.results.mapM (wE ts)
   pure (if h:vs.size=1 then vs[0]else .tuple vs)):=by
  unfold results
  congr 1
 rw[e,Sem.run_bind,h2,Result.andThen_ok,Sem.run_pure]
theorem uT (hT:cN x.P T) (hR:RelC x g ob cs ts W):∀{rs:List ResultVar}{fs:List FV},uS T x.n g ob rs=some fs→(∀v∈fs,∀l,v≠.tup l)→∃us,Pv x.P ts W rs us∧eG W (x.fr W ob cs) cs fs us
 | [],fs,h,_=>by
  simp[uS]at h
  subst h
  exact⟨[],rfl,rfl⟩
 | .tmp t::rs,fs,h,hv=>by
  unfold uS at h
  split at h
  ·rename_i r hb hr
   simp at h
   subst h
   have ht:t<x.n:=by simpa[Nat.blt,Nat.lt_iff_add_one_le]using hb
   obtain⟨us,h1,h2⟩:=uT hT hR hr (fun v hm=>hv v (List.mem_cons_of_mem _ hm))
   obtain⟨u,e1,e2⟩:=hR.fv ht
   refine⟨u::us,⟨e1,h1⟩,?_,h2⟩
   cases hg:g t with
   | tup l=>exact absurd hg (hv _ (by simp) l)
   | any=>trivial
   | one a=>rw[hg]at e2;exact e2
   | agg l=>rw[hg]at e2;exact e2
  cases h
 | .cell t ty::rs,fs,h,hv=>by
  unfold uS at h
  split at h
  ·rename_i i r hi hr
   split at h
   ·rename_i C v hl
    simp at h
    subst h
    obtain⟨us,h1,h2⟩:=uT hT hR hr (fun v hm=>hv v (List.mem_cons_of_mem _ hm))
    obtain⟨k,o',b,e1,hb,u,hrun,hvv⟩:=Il hT hi hl hR (o:=⟨none,.load ty (.tmp t),0, "", #[],none⟩) rfl
    have hrun:=hrun W rfl
    have hp:=hR.lk (.tmp t)
    rw[e1]at hp
    simp only[bO,cD,AR]at hp
    obtain⟨b',hb',e⟩:=hp
    refine⟨u::us,⟨⟨⟨b',o',none⟩,?_,?_⟩,h1⟩,?_,h2⟩
    ·simp only[Act.eval]at e
     cases hq:ts[t]? with
     | none=>
      simp[hq]at e
      cases e
     | some u=>
      simp[hq]at e
      rw[e]
    ·simp[execOp,e,Instr.loadAt,Instr.sureAddr]at hrun
     cases hq:(loadVar ty ⟨b',o',none⟩).run x.P W with
     | ok v w=>
      rw[hq]at hrun
      simp at hrun
      rw[hrun.1,hrun.2]
     | _=>rw[hq]at hrun;simp at hrun
    cases v with
    | tup l=>exact absurd rfl (hv _ (by simp) l)
    | any=>trivial
    | one a=>exact hvv
    | agg l=>exact hvv
   cases h
  cases h
end
theorem Kt {ob:List (Option Ob)}{m:Nat}:∀{rs l:List FV}{ks:List Nat},PkT ob m rs l ks→∀v∈rs,∀l,v≠.tup l
 | _,_,_,.nil,v,h,_=>by simp at h
 | _,_,_,.cons h h',v,hv,l=>by
  rcases List.mem_cons.1 hv with rfl | hv
  ·cases h <;> simp
  exact Kt h' v hv l
theorem Uw {ob:List (Option Ob)}{cs:List Co}{i:Nat}{r:Res}(h:(aQ ob cs)[i]? =some r):∃o c,ob[i]? =some o∧cs[i]? =some c∧r=aR o c:=by
 unfold aQ at h
 rw[List.getElem?_zipWith]at h
 cases h1:ob[i]? with
 | none=>rw[h1]at h;cases h
 | some o=>
  cases h2:cs[i]? with
  | none=>rw[h1,h2]at h;cases h
  | some c=>
   rw[h1,h2]at h
   simp at h
   exact⟨o,c,rfl,rfl,h.symm⟩
section
variable {x:Cx}{g g':Nat→FV}{ob ob':List (Option Ob)}{cs cs':List Co}{ts ts':Array Value}{W W':World}{T:List (Nat×TI)}
theorem lE (l:List Lt):(cB l).length=l.length:=by simp[cB]
theorem lF (l:List Lt) (i:Nat):(cB l)[i]? =(l[i]?).map fun a=>some a.ob:=by simp[cB]
end
def BK (fresh:Bool) (N:Nat→Prop) (M:List Nat) (w:World) (lent:List Lt) (cs:List Co) (R:List Lt→FV→Prop) (e:Ending) (W:World):Prop:=
 ∃v lent' cs' r y,e=.returned v∧R lent' r∧lent'.length=lent.length∧(∀(i:Nat) (a b:Lt),lent[i]? =some a→lent'[i]? =some b→b.t=a.t∧b.z=a.z)∧cs'.length=lent.length∧(∀k,k<lent.length→(co cs' k).b=(co cs k).b∧(co cs' k).c=(co cs k).c)∧
  Loc M w W (aQ (cB lent') cs'++[jK y]) [(TS fresh lent' cs' r v y).on (fun b=>N b∨b∈M∨w.heap.size≤b)]
def nI (fresh:Bool) (P:Program) (f:FuncId) (lent given:List Lt) (args:List FV) (R:List Lt→FV→Prop):Prop:=
 ∀(N:Nat→Prop) (w:World) (cs:List Co) (us:List Value),Loc ((aQ (cB (lent++given)) cs).flatMap Res.S) w w (aQ (cB (lent++given)) cs) [(BI (lent++given) cs args us).on N]→
  Calls P f us.toArray w (BK fresh N ((aQ (cB (lent++given)) cs).flatMap Res.S) w lent cs R)
section
variable {x:Cx}{g g':Nat→FV}{ob ob':List (Option Ob)}{cs cs':List Co}{ts ts':Array Value}{W W':World}{T:List (Nat×TI)}
theorem Dg {fresh:Bool}{P:Program}{f:FuncId}{fn:Func}{c:Code}{lent given:List Lt}{args:List FV}{R:List Lt→FV→Prop}(hf:P.funcs[f]? =some fn) (hb:fn.body=some c) (T:List (Nat×TI)) (hT:cN P T) (hle:Nat.ble args.length fn.ntmps=true) (m9:Nat) (hm1:lent.length≤m9) (hm2:m9≤(lent++given).length)
  (h:∀x:Cx,x.P=P→x.n=fn.ntmps→x.c0.length=m9→(lent++given=[]→x.M=[])→WP x c (bP (lZ 0 args)) (cB (lent++given)) (rH x T fn.results.toList fresh lent R)):nI fresh P f lent given args R:=by
 intro N w cs us hL
 refine calls_of_wp hf hb ?_
 have hs0:=Sh.off (hL.sh 0 rfl)
 obtain⟨hobs,hfv⟩:=hs0
 have hus:=Iq hfv
 have hle:args.length≤fn.ntmps:=bM hle
 let x:Cx:=⟨P,N,(aQ (cB (lent++given)) cs).flatMap Res.S,w,fn.ntmps,cs.take m9⟩
 have hNx:∀b,(uN w (aQ (cB (lent++given)) cs) b∧N b)→x.fr w (cB (lent++given)) cs b:=fun b hb=>⟨hb.1,.inl hb.2⟩
 have hsz:(us.toArray++Array.replicate (fn.ntmps-us.toArray.size) undef).size=fn.ntmps:=by simp;omega
 have hR:RelC x (bP (lZ 0 args)) (cB (lent++given)) cs (us.toArray++Array.replicate (fn.ntmps-us.toArray.size) undef) w:=by
  refine .of hsz hL ⟨hobs.1,fun k o hk=>⟨dN (fun _ _=>rfl) hNx .refl _ _ (hobs.2 k o hk).1,(hobs.2 k o hk).2⟩⟩ (fun i hi=>?_) ⟨by show(cs.take m9).length≤_;rw[eJ];omega,fun k hk=>by
   have hk2:k<m9:=by have h9:k<(cs.take m9).length:=hk;rw[eJ]at h9;omega
   have h8:co (cs.take m9) k=co cs k:=by simp[co,List.getElem?_take,hk2]
   show(co cs k).b=(co (cs.take m9) k).b∧(co cs k).c=(co (cs.take m9) k).c
   rw[h8]
   exact⟨rfl,rfl⟩⟩
  have hi':i<(us.toArray++Array.replicate (fn.ntmps-us.toArray.size) undef).size:=by rw[hsz];exact hi
  refine⟨_,Array.getElem?_eq_getElem hi',?_⟩
  by_cases hu:i<us.length
  ·have:=Pq (j:=0) (i:=i) hfv us[i] (gG hu)
   rw[Nat.zero_add]at this
   have e:(us.toArray++Array.replicate (fn.ntmps-us.toArray.size) undef)[i]=us[i]:=by
    rw[Array.getElem_append_left (by simpa using hu)]
    simp
   rw[e]
   exact gI (fun _ _=>rfl) hNx .refl _ _ this
  rw[Pr (by omega)]
  trivial
 have hlen:=hR.len
 rw[lE]at hlen
 have hw:=h x rfl rfl (by show(cs.take m9).length=_;rw[eJ,←hlen];exact Nat.min_eq_left hm2) (fun e=>by simp only[x,e,cB,List.map_nil,aQ,List.zipWith_nil_left,List.flatMap_nil]) _ w ⟨cs,hR⟩
 refine wp_mono hw fun e a W hq=>?_
 have main:∀g ob ts,a=⟨ts,[]⟩→Mw x g ob ts W→(∃rs r ks lent',EndA x T fn.results.toList fresh lent R g ob rs r ks lent')→a.defers=[]∧∃v,(results fn a.tmps).run P W=.ok v W∧BK fresh N ((aQ (cB (lent++given)) cs).flatMap Res.S) w lent cs R (.returned v) W:=by
  rintro g ob ts rfl ⟨cs2,hR2⟩ ⟨rs,r,ks,lent',hE⟩
  have hnt:∀v∈rs,∀l,v≠.tup l:=by
   rcases hE.pk with⟨v,rfl,hp⟩ | ⟨_,l,_,hp⟩
   ·intro v' hv' l
    simp at hv'
    subst hv'
    cases hp <;> simp
   exact Kt hp
  obtain⟨us2,hrv,hfl⟩:=uT hT hR2 hE.res hnt
  have hrun:=Si hrv
  refine⟨rfl,_,hrun,?_⟩
  let cs':=cs2.take lent.length
  have hob:lent.length≤ob.length:=by
   rcases Nat.eq_zero_or_pos lent.length with h0 | h0
   ·omega
   have hi:lent.length-1<lent'.length:=by rw[hE.len];omega
   have h1:=hE.obs (lent.length-1) _ (gG hi)
   have h2:=(List.getElem?_eq_some_iff.1 (dM h1)).1
   omega
  have hcs2:lent.length≤cs2.length:=by rw[←hR2.len];exact hob
  have hcl:cs'.length=lent.length:=by simp[cs',Nat.min_eq_left hcs2]
  have hco:∀i,i<lent.length→co cs' i=co cs2 i:=fun i hi=>by simp[cs',co,List.getElem?_take,hi]
  have hcoe:xT lent.length cs2 cs':=fun k hk=>⟨by rw[hcl];exact hk,hco k hk⟩
  -- the answer
  have hN0:∀b,x.fr W ob cs2 b→x.fr W ob cs2 b:=fun _ h=>h
  obtain⟨v,ys,hv,hro,hok,hsub⟩:∃(v:Value) (ys:List VT),v=(if h:us2.toArray.size=1 then us2.toArray[0]else .tuple us2.toArray)∧RO W (x.fr W ob cs2) cs' r v ys∧VT.okL W ys∧(VT.fpL ys).Sublist (ks.flatMap fun k=>(aR (cT ob k) (co cs2 k)).S):=by
   rcases hE.pk with⟨v1,e1,hp⟩ | ⟨hne,l,rfl,hp⟩
   ·subst e1
    cases us2 with
    | nil=>simp only[eG]at hfl
    | cons u us2=>
     simp only[eG]at hfl
     obtain⟨hf1,hf2⟩:=hfl
     subst hf2
     obtain⟨ys,f2,f3,f4⟩:=hp.ok hcoe hR2 hN0 hf1
     exact⟨_,ys,rfl,by simpa using TT f2,f3,f4⟩
   obtain⟨ys,f2,f3,f4⟩:=hp.ok hcoe hR2 hN0 hfl
   have hl:=Iq hfl
   refine⟨_,ys,rfl,?_,f3,f4⟩
   rw[dif_neg (by simp;omega)]
   exact⟨us2,rfl,f2⟩
  -- the lent ones
  have hpick:∀i,i<lent.length→∃a:Lt,lent'[i]? =some a∧cT ob i=some a.ob:=fun i hi=>by
   have hi':i<lent'.length:=by rw[hE.len];exact hi
   exact⟨_,gG hi',hE.obs i _ (gG hi')⟩
  have hre:aQ (cB lent') cs'=(aQ ob cs2).take lent.length:=by
   apply List.ext_getElem?
   intro i
   rw[List.getElem?_take]
   by_cases hi:i<lent.length
   ·rw[if_pos hi]
    obtain⟨a,ha,hob'⟩:=hpick i hi
    have e1:(cB lent')[i]? =some (some a.ob):=by rw[lF,ha];rfl
    rw[cJ (ob:=cB lent') (cs:=cs') (by rw[lE,hcl,hE.len]) e1,hco i hi,cJ hR2.len (dM hob')]
   rw[if_neg hi]
   apply List.getElem?_eq_none
   simp[aQ,lE,hcl]
   omega
  have hks:∀k∈ks,(aQ ob cs2)[k]? =some (aR (cT ob k) (co cs2 k))∨(aR (cT ob k) (co cs2 k)).S=[]:=fun k hk=>by
   cases hq:cT ob k with
   | none=>exact .inr (by simp[aR])
   | some o=>exact .inl (cJ hR2.len (dM hq))
  have hS2:∃l0,(ks.flatMap fun k=>(aR (cT ob k) (co cs2 k)).S)=(pick (aQ ob cs2) ks).flatMap Res.S∧l0=ks:=by
   refine⟨ks,?_,rfl⟩
   clear hsub
   have hks':=hks
   clear hks hE hre
   induction ks with
   | nil=>rfl
   | cons k ks ih=>
    have ih:=ih (fun k' h=>hks' k' (List.mem_cons_of_mem _ h))
    unfold pick at ih⊢
    rw[List.flatMap_cons,ih,List.filterMap_cons]
    rcases hks' k (by simp)with h1 | h1
    ·rw[h1]
     simp
    rw[h1,List.nil_append]
    cases hq:(aQ ob cs2)[k]? with
    | none=>rfl
    | some r'=>
     obtain⟨o,c,e1,e2,rfl⟩:=Uw hq
     have e3:(aR o c).S=[]:=by
      have hco2:co cs2 k=c:=by simp[co,e2]
      cases o with
      | none=>rfl
      | some o=>
       have:cT ob k=some o:=by simp[cT,e1]
       rw[this,hco2]at h1
       exact h1
     simp[e3]
  obtain⟨_,hS2,_⟩:=hS2
  have hnd2:(List.range lent.length++ks).Nodup:=by
   rw[List.nodup_append]
   refine⟨List.nodup_range,hE.nd,fun a ha b hb e=>?_⟩
   subst e
   have:=hE.far a hb
   have:=List.mem_range.1 ha
   omega
  have hLp:=hR2.2.pick (List.range lent.length++ks) hnd2
  have hpk:pick (aQ ob cs2) (List.range lent.length++ks)=aQ (cB lent') cs'++pick (aQ ob cs2) ks:=by
   unfold pick
   rw[List.filterMap_append]
   congr 1
   rw[hre]
   have hl:lent.length≤(aQ ob cs2).length:=by rw[kJ hR2.len];exact hcs2
   generalize aQ ob cs2=L at hl
   generalize lent.length=m at hl
   induction m with
   | zero=>simp
   | succ m ih=>
    rw[List.range_succ,List.filterMap_append,ih (by omega),List.take_add_one]
    simp[List.filterMap_cons]
    cases L[m]? <;> rfl
  rw[hpk]at hLp
  have hsubS:((aQ (cB lent') cs'++[jK ys]).flatMap Res.S).Sublist ((aQ (cB lent') cs'++pick (aQ ob cs2) ks).flatMap Res.S):=by
   rw[List.flatMap_append,List.flatMap_append]
   refine List.Sublist.append (List.Sublist.refl _) ?_
   rw[←hS2]
   simpa[jK]using hsub
  have hsubO:∀b,b∈(aQ (cB lent') cs'++[jK ys]).flatMap Res.S→b∈(aQ ob cs2).flatMap Res.S:=fun b hb=>by
   have:=hsubS.subset hb
   obtain⟨r',hr',hb'⟩:=List.mem_flatMap.1 this
   rw[←hpk]at hr'
   obtain⟨i,_,hi⟩:=List.mem_filterMap.1 hr'
   exact List.mem_flatMap.2 ⟨r',List.mem_of_getElem? hi,hb'⟩
  have hfr:∀b,x.fr W ob cs2 b→uN W (aQ (cB lent') cs'++[jK ys]) b∧(N b∨b∈(aQ (cB (lent++given)) cs).flatMap Res.S∨w.heap.size≤b):=fun b hb=>⟨⟨hb.1.1,fun hm=>hb.1.2 (hsubO b hm)⟩,hb.2⟩
  have hsame:∀k,k<lent.length→(co cs' k).b=(co cs k).b∧(co cs' k).c=(co cs k).c:=fun k hk=>by
   rw[hco k hk]
   have hk3:k<m9:=Nat.lt_of_lt_of_le hk hm1
   have h9:=hR2.3.2 k (by show k<(cs.take m9).length;rw[eJ,←hlen];exact Nat.lt_of_lt_of_le hk3 (Nat.le_min.2 ⟨bC _,hm2⟩))
   have h8:co (cs.take m9) k=co cs k:=by simp[co,List.getElem?_take,hk3]
   have h7:(co cs2 k).b=(co (cs.take m9) k).b∧(co cs2 k).c=(co (cs.take m9) k).c:=h9
   rwa[h8]at h7
  refine⟨_,lent',cs',r,ys,by rw[←hv],hE.post,hE.len,hE.ty,hcl,hsame,?_⟩
  refine⟨hR2.2.chg,fun q hq=>?_,fun b hb=>hLp.blk b (hsubS.subset hb),hLp.nd.sublist hsubS,fun q hq=>?_⟩
  ·rcases List.mem_append.1 hq with hq | hq
   ·exact hLp.res q (List.mem_append_left _ hq)
   simp at hq
   subst hq
   exact hok
  rw[List.mem_singleton]at hq
  subst hq
  have hobr:Jw W (x.fr W ob cs2) cs' (cB lent'):=by
   refine⟨by rw[lE,hcl,hE.len],fun k o hk=>?_⟩
   rw[lF]at hk
   cases hq:lent'[k]? with
   | none=>rw[hq]at hk;cases hk
   | some a=>
    rw[hq]at hk
    simp at hk
    subst hk
    have hkl:k<lent.length:=by
     have:=(List.getElem?_eq_some_iff.1 hq).1
     rw[hE.len]at this
     exact this
    have h1:=hR2.obs.2 k _ (dM (hE.obs k a hq))
    rw[hco k hkl]
    exact⟨Uu hcoe (hE.refs a (List.mem_of_getElem? hq)) h1.1,h1.2⟩
  show Jw W _ cs' (cB lent')∧RO W _ cs' r _ ys
  cases hfresh:fresh with
  | false=>
   have hN2:∀b,x.fr W ob cs2 b→(false=false∧(uN W (aQ (cB lent') cs'++[jK ys]) b∧(N b∨b∈(aQ (cB (lent++given)) cs).flatMap Res.S∨w.heap.size≤b))):=fun b hb=>⟨rfl,hfr b hb⟩
   exact⟨⟨hobr.1,fun k o hk=>⟨dN (fun _ _=>rfl) hN2 .refl _ _ (hobr.2 k o hk).1,(hobr.2 k o hk).2⟩⟩,sF (fun _ _=>rfl) hN2 .refl hro⟩
  | true=>
   obtain⟨c1,c2⟩:=hE.clean hfresh
   refine⟨⟨hobr.1,fun k o hk=>⟨?_,(hobr.2 k o hk).2⟩⟩,HS c1 hro⟩
   have h1:=(hobr.2 k o hk).1
   rw[lF]at hk
   cases hq:lent'[k]? with
   | none=>rw[hq]at hk;cases hk
   | some a=>
    rw[hq]at hk
    simp at hk
    subst hk
    exact zQ (c2 a (List.mem_of_getElem? hq)) h1
 cases e with
 | normal=>
  obtain⟨g,ob,ts,rfl,h1,h2⟩:=hq
  exact main g ob ts rfl h1 h2
 | ret=>
  obtain⟨g,ob,ts,rfl,h1,h2⟩:=hq
  exact main g ob ts rfl h1 h2
 | panic c=>exact hq.elim
 | exit id=>
  obtain⟨_,_,_,_,_,h2⟩:=hq
  exact h2.elim
 | goto l=>
  obtain⟨_,_,_,_,_,h2⟩:=hq
  exact h2.elim
 | outgrown=>
  obtain⟨_,_,_,_,_,h2⟩:=hq
  exact h2.elim
theorem Ux {fresh:Bool}{P:Program}{f:FuncId}{fn:Func}{c:Code}{lent:List Lt}{args:List FV}{R:List Lt→FV→Prop}(hf:P.funcs[f]? =some fn) (hb:fn.body=some c) (T:List (Nat×TI)) (hT:cN P T) (hle:Nat.ble args.length fn.ntmps=true)
  (h:∀x:Cx,x.P=P→x.n=fn.ntmps→x.c0.length=lent.length→(lent=[]→x.M=[])→WP x c (bP (lZ 0 args)) (cB lent) (rH x T fn.results.toList fresh lent R)):aE fresh P f lent args R:=fun N w cs us hL=>by
 have hG:nI fresh P f lent [] args R:=Dg hf hb T hT hle lent.length (bC _) (by rw[List.append_nil];exact bC _) fun x a b c d=>by
  have h9:=h x a b c fun e=>d (by rw[e];rfl)
  rwa[List.append_nil]
 have hs0:=Sh.off (hL.sh 0 rfl)
 have hlen:lent.length=cs.length:=by have h0:=hs0.1.1;rwa[lE]at h0
 have h2:=hG N w cs us (by rw[List.append_nil];exact hL)
 rw[List.append_nil]at h2
 refine h2.mono fun e W hE=>?_
 obtain⟨v,lent',cs',r,y,h1,h2,h3,h4,h5,h6,h7⟩:=hE
 exact⟨v,lent',cs',r,y,h1,h2,h3,h4,by rw[h5,hlen],⟨by rw[h5,hlen];exact bC _,fun k hk=>h6 k (by omega)⟩,h7⟩
end
section
variable {x:Cx}{g g':Nat→FV}{ob ob':List (Option Ob)}{cs cs':List Co}{ts ts':Array Value}{W W':World}{T:List (Nat×TI)}{Q:Post}{ops:Array Oper}{rest:List Oper}
def tF:AV→AV
 | .t (.s _ t z n l)=>.t (.s false t z n l)
 | .t (.p _ t l)=>.t (.p false t l)
 | a=>a
def Pw:FV→FV
 | .one a=>.one (tF a)
 | .agg l=>.agg (l.map tF)
 | v=>v
def zS:FV→FV
 | .tup l=>.tup (l.map Pw)
 | v=>Pw v
theorem BL {N N':Nat→Prop}(hN:∀b,N b→N' b){a:AV}{y:VT}(h:CR W N [] a y) (hok:y.ok W) (hf:∀b∈y.fp,N' b):AR W N' cs (tF a) y.val:=by
 cases a with
 | t z=>
  simp only[CR]at h
  have h1:=Cw hN z y h hok hf
  cases z with
  | v w=>simpa only[tF,AR]using h1
  | s o t z n l=>
   simp only[tF,AR,FR]at h1⊢
   exact h1
  | p o t l=>
   simp only[tF,AR,FR]at h1⊢
   exact h1
  | f g l0 l=>simpa only[tF,AR]using h1
  | a l=>simpa only[tF,AR]using h1
 | sl k o n=>
  cases y with
  | w u=>
   simp only[CR,AR]at h
   simp at h
  | s=>simp only[CR]at h
  | p=>simp only[CR]at h
 | pt k o=>
  cases y with
  | w u=>
   simp only[CR,AR]at h
   obtain⟨b,hb,_⟩:=h
   simp[co]at hb
  | s=>simp only[CR]at h
  | p=>simp only[CR]at h
 | ef l o=>
  cases y with
  | w u=>
   simp only[CR,AR]at h
   simp only[tF,AR,VT.val]
   obtain⟨ad,h1,h2,h3⟩:=h
   exact⟨ad,hN _ h1,FRc_keep (fun _ _=>rfl) hN _ _ _ h1 h2,h3⟩
  | s=>simp only[CR]at h
  | p=>simp only[CR]at h
 | fn f a b=>
  cases y with
  | w u=>
   simp only[CR]at h
   exact jD (fun _ _=>rfl) hN ⟨Nat.zero_le _,fun k hk=>by simp at hk⟩ _ _ h
  | s=>simp only[CR]at h
  | p=>simp only[CR]at h
theorem Uy {N N':Nat→Prop}(hN:∀b,N b→N' b):∀{l:List AV}{ys:List VT},bU W N [] l ys→VT.okL W ys→(∀b∈VT.fpL ys,N' b)→ARL W N' cs (l.map tF) (ys.map VT.val)
 | [],ys,h,_,_=>by
  simp only[bU]at h
  subst h
  simp[ARL]
 | a::l,[],h,_,_=>by simp only[bU]at h
 | a::l,y::ys,h,hok,hf=>by
  simp only[bU]at h
  simp only[VT.okL]at hok
  simp only[VT.fpL]at hf
  simp only[List.map_cons,ARL]
  exact⟨BL hN h.1 hok.1 (fun b hb=>hf b (by simp[hb])),Uy hN h.2 hok.2 (fun b hb=>hf b (by simp[hb]))⟩
theorem Dx {N N':Nat→Prop}(hN:∀b,N b→N' b){r:FV}{v:Value}{ys:List VT}(h:yK W N [] r v ys) (hok:VT.okL W ys) (hf:∀b∈VT.fpL ys,N' b):cD W N' cs (Pw r) v:=by
 cases r with
 | one a=>
  obtain⟨z,rfl,rfl,h3⟩:=h
  simp only[VT.okL]at hok
  simp only[VT.fpL,List.append_nil]at hf
  exact BL hN h3 hok.1 hf
 | agg l=>
  obtain⟨rfl,h2⟩:=h
  exact⟨_,rfl,Uy hN h2 hok hf⟩
 | any=>exact h.elim
 | tup l=>exact h.elim
theorem Uz {N N':Nat→Prop}(hN:∀b,N b→N' b):∀{r:List FV}{vs:List Value}{ys:List VT},zP W N [] r vs ys→VT.okL W ys→(∀b∈VT.fpL ys,N' b)→eG W N' cs (r.map Pw) vs
 | [],vs,ys,h,_,_=>by simp[eG,h.1]
 | a::l,vs,ys,⟨v,vs',y1,y2,h1,h2,h3,h4⟩,hok,hf=>by
  subst h1 h2
  rw[qG]at hok
  rw[mQ]at hf
  simp only[List.map_cons,eG]
  exact⟨Dx hN h3 hok.1 (fun b hb=>hf b (by simp[hb])),Uz hN h4 hok.2 (fun b hb=>hf b (by simp[hb]))⟩
theorem Is {N N':Nat→Prop}(hN:∀b,N b→N' b){r:FV}{v:Value}{ys:List VT}(h:RO W N [] r v ys) (hok:VT.okL W ys) (hf:∀b∈VT.fpL ys,N' b):bO W N' cs (zS r) v:=by
 cases r with
 | tup l=>
  obtain⟨vs,rfl,h2⟩:=h
  exact⟨vs,rfl,Uz hN h2 hok hf⟩
 | one a=>exact Dx (r:=.one a) hN h hok hf
 | agg l=>exact Dx (r:=.agg l) hN h hok hf
 | any=>exact h.elim
mutual
def oF:Tr→Tr
 | .v x=>.v x
 | .s _ t z n l=>.s false t z n (rdTL l)
 | .p _ t l=>.p false t (rdTL l)
 | .f g l0 l=>.f g l0 l
 | .a l=>.a l
def rdTL:List Tr→List Tr
 | []=>[]
 | x::l=>oF x::rdTL l
end
theorem Px:∀(l:List Tr),(rdTL l).length=l.length
 | []=>rfl
 | x::l=>by simp[rdTL,Px l]
mutual
theorem Fb {N:Nat→Prop}:∀(x:Tr) (u:Value),FR W N x u→FR W N (oF x) u
 | .v x,u,h=>by simpa[oF]using h
 | .s o t z n l,u,h=>by
  simp only[oF,FR]at*
  obtain⟨A,c,h1,h2,h3,h4,h5⟩:=h
  refine⟨A,c,h1,h2,h3,by rw[Px,h4],?_⟩
  rcases h5 with h5 | ⟨ad,h5,h6,h7⟩
  ·exact .inl h5
  exact .inr ⟨ad,h5,h6,FRc_rdT l ad 0 h7⟩
 | .p o t l,u,h=>by
  simp only[oF,FR]at*
  obtain⟨ad,h5,h6,h7⟩:=h
  exact⟨ad,h5,h6,FRc_rdT l ad 0 h7⟩
 | .f ..,u,h | .a ..,u,h=>by simpa only[oF]using h
theorem FRc_rdT {N:Nat→Prop}:∀(l:List Tr) (ad:Addr) (j:Nat),FRc W N ad j l→FRc W N ad j (rdTL l)
 | [],_,_,_=>by simp[rdTL,FRc]
 | x::l,ad,j,h=>by
  simp only[rdTL,FRc]at*
  obtain⟨⟨u,h1,h2⟩,h3⟩:=h
  exact⟨⟨u,h1,Fb x u h2⟩,FRc_rdT l ad (j+1) h3⟩
end
def NV (fresh:Bool) (x:Cx) (ob:List (Option Ob)) (cs:List Co) (W:World) (b:Nat):Prop:=(fresh=true∧b<W.heap.size)∨x.fr W ob cs b
def A1 (fresh:Bool) (x:Cx) (g:Nat→FV) (ob:List (Option Ob)) (o:Operand) (a:FV):Prop:=∀cs ts W,RelC x g ob cs ts W→cD W (NV fresh x ob cs W) [] a (Act.eval ⟨ts,[]⟩ o)
inductive Vw (fresh:Bool) (ob:List (Option Ob)):AV→AV→Prop
 | t {y:Tr}:Vw fresh ob (.t y) (.t y)
 | nil {t z:Nat}:Vw fresh ob (tv (.slice none 0 0)) (.t (.s false t z 0 []))
 | sl {k o n t z t':Nat}{l:List AV}{trs:List Tr}(hf:fresh=true) (h:cT ob k=some ⟨t,z,l⟩) (hl:(l.drop o).take trs.length=trs.map .t) (hn:trs.length=n*z):Vw fresh ob (.sl k o n) (.t (.s false t' z n trs))
 | pt {k o t z t':Nat}{l:List AV}{trs:List Tr}(hf:fresh=true) (h:cT ob k=some ⟨t,z,l⟩) (hl:(l.drop o).take trs.length=trs.map .t):Vw fresh ob (.pt k o) (.t (.p false t' trs))
 | ef {l:List Tr}{o:Nat}:Vw fresh ob (.ef l o) (.ef l o)
 | sr {k o n t z t':Nat}{l:List AV}{trs trs':List Tr}(hf:fresh=true) (h:cT ob k=some ⟨t,z,l⟩) (hl:(l.drop o).take trs.length=trs.map .t) (hn:trs.length=n*z) (hr:rdTL trs=trs'):Vw fresh ob (.sl k o n) (.t (.s false t' z n trs'))
 | pe {k o t z:Nat}{l:List AV}{trs trs':List Tr}(hf:fresh=true) (h:cT ob k=some ⟨t,z,l⟩) (hl:(l.drop o).take trs.length=trs.map .t) (hr:rdTL trs=trs'):Vw fresh ob (.pt k o) (.ef trs' 0)
inductive VwL (fresh:Bool) (ob:List (Option Ob)):List AV→List AV→Prop
 | nil:VwL fresh ob [] []
 | cons {a a':AV}{l l':List AV}(h:Vw fresh ob a a') (h':VwL fresh ob l l'):VwL fresh ob (a::l) (a'::l')
theorem VwL.same {fresh:Bool}:∀(l:List Tr),VwL fresh ob (l.map .t) (l.map .t)
 | []=>.nil
 | y::l=>.cons .t (VwL.same l)
theorem wF {N:Nat→Prop}:∀{l:List AV}{ys:List VT}{j:Nat}{a:AV},bU W N cs l ys→l[j]? =some a→∃y,ys[j]? =some y∧CR W N cs a y
 | [],_,_,_,_,h=>by simp at h
 | a::l,y::ys,0,b,h,hj=>by
  simp only[bU]at h
  simp at hj
  subst hj
  exact⟨y,rfl,h.1⟩
 | a::l,y::ys,j+1,b,h,hj=>by
  simp only[bU]at h
  simpa using wF h.2 (j:=j) (by simpa using hj)
 | _::_,[],_,_,h,_=>by simp only[bU]at h
theorem It:∀{ys:List VT}{j:Nat}{y:VT},VT.okL W ys→ys[j]? =some y→y.ok W
 | [],_,_,_,h=>by simp at h
 | y::ys,0,z,h,hj=>by
  simp only[VT.okL]at h
  simp at hj
  subst hj
  exact h.1
 | y::ys,j+1,z,h,hj=>by
  simp only[VT.okL]at h
  exact It (j:=j) h.2 (by simpa using hj)
theorem Va:∀{ys:List VT}{j:Nat}{y:VT},ys[j]? =some y→∀b∈y.fp,b∈VT.fpL ys
 | [],_,_,h=>by simp at h
 | y::ys,0,z,hj=>by
  simp at hj
  subst hj
  intro b hb
  simp[VT.fpL,hb]
 | y::ys,j+1,z,hj=>fun b hb=>by
  have:=Va (ys:=ys) (j:=j) (by simpa using hj) b hb
  simp[VT.fpL,this]
theorem xU {N N':Nat→Prop}(hN:∀b,N b→N' b){trs:List Tr}{l:List AV}{ys:List VT}{b t m o:Nat}(hc:bU W N cs l ys) (hl:(l.drop o).take trs.length=trs.map .t) (hok:VT.okL W ys) (hf:∀b∈VT.fpL ys,N' b) (hb:Blk W b t m (ys.map VT.val)):FRc W N' ⟨b,o,none⟩ 0 trs:=by
 refine zJ fun j y hj=>?_
 have hlt:=(List.getElem?_eq_some_iff.1 hj).1
 have e:l[o+j]? =some (.t y):=by
  have h1:=congrArg (·[j]?) hl
  simp only[List.getElem?_take,if_pos hlt,List.getElem?_drop,List.getElem?_map,hj,Option.map_some]at h1
  exact h1
 obtain⟨z,hz,hr⟩:=wF hc e
 simp only[CR]at hr
 refine⟨z.val,?_,Cw hN y z hr (It hok hz) (fun b hb=>hf b (Va hz b hb))⟩
 have h2:=sM hb (j:=o+j) (u:=z.val) (by simp[hz])
 rw[jH]at h2⊢
 rw[Nat.zero_add]at h2⊢
 exact h2
theorem RelC.blkS (h:RelC x g ob cs ts W){k:Nat}{o:Ob}(hk:ob[k]? =some (some o)):∀b∈(aR (some o) (co cs k)).S,b<W.heap.size:=fun b hb=>
 (h.2.blk b (List.mem_flatMap.2 ⟨_,List.mem_of_getElem? (cJ h.len hk),hb⟩)).2
theorem KK {fresh:Bool}(hR:RelC x g ob cs ts W){k o n t z t':Nat}{l:List AV}{trs:List Tr}(hf:fresh=true) (h:cT ob k=some ⟨t,z,l⟩) (hl:(l.drop o).take trs.length=trs.map .t) (hn:trs.length=n*z){u:Value}(hu:AR W (x.fr W ob cs) cs (.sl k o n) u):AR W (NV fresh x ob cs W) [] (.t (.s false t' z n trs)) u:=by
 have hN:∀b,x.fr W ob cs b→NV fresh x ob cs W b:=fun _ h=>.inr h
 have hk:=dM h
 simp only[AR]at hu⊢
 simp only[FR]
 cases hb:(co cs k).b with
 | none=>
  rw[hb]at hu
  obtain⟨_,rfl,rfl,rfl⟩:=hu
  exact⟨none,0,rfl,bC _,by omega,hn,.inl rfl⟩
 | some b=>
  rw[hb]at hu
  obtain⟨_,o',c,rfl,h1,h2,h3,_⟩:=hu
  obtain⟨k1,k2,k3⟩:=hR.blk hk hb
  have hS:=hR.blkS hk
  refine⟨_,c,rfl,h1,h2,hn,?_⟩
  rcases Nat.eq_zero_or_pos n with h0 | h0
  ·exact .inl h0
  obtain rfl:=h3 (.inl h0)
  refine .inr ⟨_,rfl,.inl ⟨hf,hS b (by simp[aR,hb])⟩,?_⟩
  exact xU hN (hR.crl hk) hl k2 (fun b' hb'=>.inl ⟨hf,hS b' (by simp[aR,hb,hb'])⟩) k1
theorem Vw.ok {fresh:Bool}(hR:RelC x g ob cs ts W){a a':AV}(h:Vw fresh ob a a'){u:Value}(hu:AR W (x.fr W ob cs) cs a u):AR W (NV fresh x ob cs W) [] a' u:=by
 have hN:∀b,x.fr W ob cs b→NV fresh x ob cs W b:=fun _ h=>.inr h
 cases h with
 | t=>
  simp only[AR]at hu⊢
  exact jU (fun _ _=>rfl) hN _ _ hu
 | nil=>
  simp only[tv,AR,FR]at hu
  subst hu
  simp only[AR,FR]
  exact⟨none,0,rfl,bC _,by omega,by simp,.inl trivial⟩
 | sl hf h hl hn=>exact KK hR hf h hl hn hu
 | @pt k o t z t' l trs hf h hl=>
  have hk:=dM h
  simp only[AR]at hu⊢
  simp only[FR]
  obtain⟨b,hb,rfl⟩:=hu
  obtain⟨k1,k2,k3⟩:=hR.blk hk hb
  have hS:=hR.blkS hk
  refine⟨_,rfl,.inl ⟨hf,hS b (by simp[aR,hb])⟩,?_⟩
  exact xU hN (hR.crl hk) hl k2 (fun b' hb'=>.inl ⟨hf,hS b' (by simp[aR,hb,hb'])⟩) k1
 | ef=>
  simp only[AR]at hu⊢
  obtain⟨ad,h1,h2,h3⟩:=hu
  exact⟨ad,hN _ h1,FRc_keep (fun _ _=>rfl) hN _ _ _ h1 h2,h3⟩
 | @sr k o n t z t' l trs trs' hf h hl hn hr=>
  have h9:=KK (t':=t') hR hf h hl hn hu
  simp only[AR]at h9⊢
  have h8:=Fb _ _ h9
  simp only[oF,hr]at h8
  exact h8
 | @pe k o t z l trs trs' hf h hl hr=>
  have hk:=dM h
  simp only[AR]at hu⊢
  obtain⟨b,hb,rfl⟩:=hu
  obtain⟨k1,k2,k3⟩:=hR.blk hk hb
  have hS:=hR.blkS hk
  have h9:=xU hN (hR.crl hk) hl k2 (fun b' hb'=>.inl ⟨hf,hS b' (by simp[aR,hb,hb'])⟩) k1
  refine⟨⟨b,o,none⟩,.inl ⟨hf,hS b (by simp[aR,hb])⟩,?_,by rw[Ei]⟩
  rw[←hr]
  exact FRc_rdT _ _ _ h9
theorem VwL.ok {fresh:Bool}(hR:RelC x g ob cs ts W):∀{l l':List AV}{us:List Value},VwL fresh ob l l'→ARL W (x.fr W ob cs) cs l us→ARL W (NV fresh x ob cs W) [] l' us
 | _,_,us,.nil,hu=>by simpa[ARL]using hu
 | _,_,[],.cons h h',hu=>by simp only[ARL]at hu
 | _,_,u::us,.cons h h',hu=>by
  simp only[ARL]at hu⊢
  exact⟨h.ok hR hu.1,VwL.ok hR h' hu.2⟩
theorem sS {fresh:Bool}{o:Operand}{a a':AV}(h:lk x.n g o=.one a) (hv:Vw fresh ob a a'):A1 fresh x g ob o (.one a'):=fun cs ts W hR=>by
 have h1:=hR.lk o
 rw[h]at h1
 exact hv.ok hR h1
theorem pM {fresh:Bool}{o:Operand}{l l':List AV}(h:lk x.n g o=.agg l) (hv:VwL fresh ob l l'):A1 fresh x g ob o (.agg l'):=fun cs ts W hR=>by
 have h1:=hR.lk o
 rw[h]at h1
 obtain⟨us,e,h2⟩:=h1
 exact⟨us,e,hv.ok hR h2⟩
theorem a1 {fresh:Bool}{o:Operand}{y:Tr}(h:lk x.n g o=.one (.t y)):A1 fresh x g ob o (.one (.t y)):=sS h .t
theorem aC {fresh:Bool}{o:Operand}{l:List Tr}(h:lk x.n g o=.agg (l.map .t)):A1 fresh x g ob o (.agg (l.map .t)):=pM h (VwL.same l)
def AL (fresh:Bool) (x:Cx) (g:Nat→FV) (ob:List (Option Ob)):List Operand→List FV→Prop
 | [],aa=>aa=[]
 | _::_,[]=>False
 | o::os,a::aa=>A1 fresh x g ob o a∧AL fresh x g ob os aa
theorem KL {fresh:Bool}(hR:RelC x g ob cs ts W):∀{os:List Operand}{aa:List FV},AL fresh x g ob os aa→eG W (NV fresh x ob cs W) [] aa (os.map (Act.eval ⟨ts,[]⟩))
 | [],aa,h=>by
  simp only[AL]at h
  simp[h,eG]
 | o::os,[],h=>by simp only[AL]at h
 | o::os,a::aa,h=>by
  simp only[AL]at h
  simp only[List.map_cons,eG]
  exact⟨h.1 _ _ _ hR,KL hR h.2⟩
variable {d:Nat}{ty:TypeId}{pos:String}{af:Array Edge}{gd:Option (Nat×Bool)}
theorem Ku {fresh:Bool}{f:FuncId}{args:List FV}{R:List Lt→FV→Prop}{os:List Operand}(hS:aE fresh x.P f [] args R) (ha:AL fresh x g ob os args) (hR:RelC x g ob cs ts W):
  Calls x.P f (os.map (Act.eval ⟨ts,[]⟩)).toArray W (fun e W'=>∃v r ys,e=.returned v∧R [] r∧Below W.heap.size W W'∧VT.okL W' ys∧(VT.fpL ys).Nodup∧(∀b∈VT.fpL ys,W.heap.size≤b∧b<W'.heap.size)∧
   RO W' (fun b=>fresh=false∧b∉VT.fpL ys∧b<W'.heap.size∧(x.fr W ob cs b∨W.heap.size≤b)) [] r v ys):=by
 have h:=hS (NV fresh x ob cs W) W [] _ ⟨Chg.refl _ _,by simp[cB,aQ],by simp[cB,aQ],by simp[cB,aQ],fun q hq=>by
  simp at hq
  subst hq
  refine⟨⟨rfl,fun k o hk=>by simp[cB]at hk⟩,?_⟩
  refine lX (fun _ _=>rfl) (fun b hb=>⟨⟨?_,by simp[cB,aQ]⟩,hb⟩) .refl _ _ (KL hR ha)
  rcases hb with hb | hb
  ·exact hb.2
  exact hb.1.1⟩
 refine h.mono fun e W' hE=>?_
 obtain⟨v,lent',cs',r,ys,rfl,hr,hl,_,hcl,_,hL⟩:=hE
 obtain rfl:lent'=[]:=List.eq_nil_of_length_eq_zero hl
 obtain rfl:cs'=[]:=List.eq_nil_of_length_eq_zero hcl
 have hL':Loc [] W W' [jK ys] _:=hL
 have hsh:=Sh.off (hL'.sh 0 rfl)
 refine⟨v,r,ys,rfl,hr,hL'.bel,hL'.get 0 rfl,by simpa[jK]using hL'.nd,fun b hb=>?_,?_⟩
 ·have:=hL'.blk b (by simpa[jK]using hb)
  exact⟨this.1.resolve_left (by simp),this.2⟩
 refine sF (fun _ _=>rfl) (fun b hb=>?_) .refl hsh.2
 obtain⟨h1,⟨h2,h3⟩,h4⟩:=hb
 refine⟨h1,by simpa[jK]using h3,h2,?_⟩
 rcases h4 with h4 | h4
 ·rcases h4 with h4 | h4
  ·rw[h1]at h4
   cases h4.1
  exact .inl h4
 exact .inr (h4.resolve_left (by simp[cB,aQ]))
theorem RelC.below (hR:RelC x g ob cs ts W) (hb:Below W.heap.size W W') (d:Option Nat):Aft [] d ob cs ts W ob cs ts W':=⟨.refl,fun _ _ _=>rfl,hb.size,fun b h _=>hb.block b h,fun b h=>.inl h,fun _ _=>rfl⟩
theorem Iu {fresh:Bool}{f:FuncId}{args:List FV}{R:List Lt→FV→Prop}{aa:Array Operand}{ats:Array TypeId}(hS:aE fresh x.P f [] args R) (hf:CallOk x.P f) (ha:AL fresh x g ob aa.toList args):
  OS x ⟨some d,.call ⟨.value (.func f),aa,ats⟩,ty,pos,af,gd⟩ g ob [] (fun g' ob'=>∃r,R [] r∧g'=bH g d (zS r)∧ob'=ob):=by
 intro cs ts W hR K Q kk
 have hC:=Ku hS ha hR
 obtain⟨fn,c,h1,h2,h3⟩:=hf
 have hrun:(execOp (Act.eval ⟨ts,[]⟩) ⟨some d,.call ⟨.value (.func f),aa,ats⟩,ty,pos,af,gd⟩).run x.P W=.ok (.enter f (aa.toList.map (Act.eval ⟨ts,[]⟩)).toArray) W:=by
  have e0:Act.eval ⟨ts,[]⟩ (.func f)=.func (.func f) #[] #[]:=rfl
  have e1:aa.map (Act.eval ⟨ts,[]⟩)=(aa.toList.map (Act.eval ⟨ts,[]⟩)).toArray:=by apply Array.ext';simp only[Array.toList_map]
  simp[execOp,resolve,e0,Deferred.ofValue,invoke,e1,callFunc,h1,h3]
  intro hn
  rw[hn]at h2
  simp at h2
 unfold Oper.wp
 rw[hrun]
 refine hC.mono fun e W' hE=>?_
 obtain⟨v,r,ys,rfl,hr,hb,hok,hnd,hfp,hro⟩:=hE
 have hR':=hR.ext hb
 have hfr:∀b,b<W'.heap.size→(x.fr W ob cs b∨W.heap.size≤b)→x.fr W' ob cs b:=fun b hlt hb'=>by
  rcases hb' with hb' | hb'
  ·exact rV hb' hb.size (fun _ h=>.inl h)
  refine⟨⟨hlt,fun hm=>?_⟩,.inr (.inr (Nat.le_trans hR.2.chg.size hb'))⟩
  have:=(hR.2.blk b hm).2
  omega
 refine kk _ _ cs (ts.setIfInBounds d v) W' ⟨r,hr,rfl,rfl⟩ (hR'.put d ?_) ((hR.below hb (some d)).then_put v)
 exact Is (fun b hb'=>hfr b hb'.2.2.1 hb'.2.2.2) hro hok (fun b hb'=>hfr b (hfp b hb').2 (.inr (hfp b hb').1))
end
section
variable {x:Cx}{g g':Nat→FV}{ob ob':List (Option Ob)}{cs cs':List Co}{ts ts':Array Value}{W W':World}{T:List (Nat×TI)}{Q:Post}{ops:Array Oper}{rest:List Oper}
theorem RelC.move (h:RelC x g ob cs ts W){k:Nat}{o:Ob}(hk:ob[k]? =some (some o)) (o':Ob) (c':Co) (hc:Chg (aR (some o) (co cs k)).S W W') (hφ:(aR (some o') c').φ W')
    (hS:∀b∈(aR (some o') c').S,b∈(aR (some o) (co cs k)).S∨(W.heap.size≤b∧b<W'.heap.size)) (hn:(aR (some o') c').S.Nodup)
    (hcr:(∀b,x.fr W ob cs b→W'.heap[b]? =W.heap[b]?)→(∀b,x.fr W ob cs b→x.fr W' (ob.set k none++[some o']) (cs++[c']) b)→bU W' (x.fr W' (ob.set k none++[some o']) (cs++[c'])) (cs++[c']) o'.l c'.l) (hz:c'.b=none→o'.l=[]∧o'.z≠0):
    RelC x g (ob.set k none++[some o']) (cs++[c']) ts W'∧∀d,Aft [k] d ob cs ts W (ob.set k none++[some o']) (cs++[c']) ts W':=by
  have hlen:=h.len
  have hkl:k<cs.length:=by
    have:=(List.getElem?_eq_some_iff.1 hk).1
    omega
  have hset:=h.2.set k (cJ hlen hk) hc hφ hS hn
  have e1:aQ (ob.set k none) cs=(aQ ob cs).set k (aR none (co cs k)):=by
    have h1:=lC (ob:=ob) (cs:=cs) (k:=k) (o:=none) (c:=co cs k)
    have h2:cs.set k (co cs k)=cs:=by
      unfold co
      rw[gG hkl]
      simp
    rwa[h2]at h1
  have hr:aQ (ob.set k none++[some o']) (cs++[c'])=(aQ ob cs).set k (aR none (co cs k))++[aR (some o') c']:=by
    unfold aQ at e1⊢
    rw[List.zipWith_append (by simp[hlen]),e1]
    rfl
  have hkr:k<(aQ ob cs).length:=by rw[kJ hlen];exact hkl
  have hp:List.Perm (((aQ ob cs).set k (aR (some o') c')).flatMap Res.S) (((aQ ob cs).set k (aR none (co cs k))++[aR (some o') c']).flatMap Res.S):=by
    rw[List.set_eq_take_append_cons_drop,if_pos hkr,List.set_eq_take_append_cons_drop,if_pos hkr]
    simp only[List.flatMap_append,List.flatMap_cons,List.flatMap_nil,List.append_nil,List.append_assoc]
    refine List.Perm.append_left _ ?_
    have:(aR none (co cs k)).S=[]:=rfl
    rw[this,List.nil_append]
    exact List.perm_append_comm
  have hL:Loc x.M x.w W' (aQ (ob.set k none++[some o']) (cs++[c'])) [(JJ x.n g ob cs ts).on x.NN]:=by
    rw[hr]
    refine hset.conv hp fun hall r hr=>?_
    rcases List.mem_append.1 hr with hr | hr
    · obtain⟨j,hj⟩:=List.mem_iff_getElem?.1 hr
      rw[List.getElem?_set]at hj
      split at hj
      · first
          | (injection hj with hj
             subst hj
             simp[aR])
          | (split at hj
             · injection hj with hj
               subst hj
               simp[aR]
             cases hj)
      rename_i hne
      exact hall r (List.mem_iff_getElem?.2 ⟨j,by rw[List.getElem?_set_ne hne];exact hj⟩)
    simp at hr
    subst hr
    exact hφ
  have hown:∀b∈eK (ob.set k none++[some o']) (cs++[c']),b∈eK ob cs∨W.heap.size≤b:=by
    intro b hb
    unfold eK at hb
    rw[hr,←hp.mem_iff]at hb
    obtain⟨r,hr,hbr⟩:=List.mem_flatMap.1 hb
    rcases List.mem_or_eq_of_mem_set hr with hr | rfl
    · exact .inl (List.mem_flatMap.2 ⟨r,hr,hbr⟩)
    rcases hS b hbr with h1 | h1
    · exact .inl (List.mem_flatMap.2 ⟨_,List.mem_of_getElem? (cJ hlen hk),h1⟩)
    exact .inr h1.1
  have hkeep:∀b,x.fr W ob cs b→W'.heap[b]? =W.heap[b]? :=fun b hb=>hc.block b hb.1.1 (fun hm=>hb.1.2 (List.mem_flatMap.2 ⟨_,List.mem_of_getElem? (cJ hlen hk),hm⟩))
  have hN:∀b,x.fr W ob cs b→x.fr W' (ob.set k none++[some o']) (cs++[c']) b:=fun b h=>rV h hc.size hown
  refine⟨.of h.1 hL ⟨by simp[hlen],fun j o2 hj=>?_⟩ (fun i hi=>?_) (h.3.trans .app),fun d=>⟨.app,fun j _ hj=>oZ hj,hc.size,fun b hb hne=>hc.block b hb (hne k (by simp) _ hk),hown,fun _ _=>rfl⟩⟩
  · rw[List.getElem?_append]at hj
    split at hj
    · rename_i hlt
      rw[List.getElem?_set]at hj
      split at hj
      · split at hj
        · simp at hj
        cases hj
      have h1:=h.obs.2 j o2 hj
      rw[oZ (by simp at hlt;omega)]
      exact⟨dN hkeep hN .app _ _ h1.1,h1.2⟩
    have e:j=ob.length:=by
      have:=(List.getElem?_eq_some_iff.1 hj).1
      simp at this
      rename_i hge
      simp at hge
      omega
    subst e
    simp at hj
    subst hj
    rw[hlen,iV]
    exact⟨hcr hkeep hN,hz⟩
  obtain⟨u,h1,h2⟩:=h.fv hi
  exact⟨u,h1,gI hkeep hN .app _ _ h2⟩
variable {d:Nat}{ty:TypeId}{pos:String}{af:Array Edge}{gd:Option (Nat×Bool)}
def iQ (z:List Value):Nat→List Value
 | 0=>[]
 | n+1=>z++iQ z n
def qM (e sz:Nat):Nat→Nat→List (Nat×Nat×Nat)
 | _,0=>[]
 | i,n+1=>(i*sz,e,sz)::qM e sz (i+1) n
theorem Kv {e sz:Nat}:∀{n i j:Nat},j<n→(qM e sz i n)[j]? =some ((i+j)*sz,e,sz)
 | 0,_,_,h=>by omega
 | n+1,i,0,_=>by simp[qM]
 | n+1,i,j+1,h=>by
  simp only[qM,List.getElem?_cons_succ]
  rw[Kv (by omega)]
  rw[show i+1+j=i+(j+1) by omega]
theorem Kw {e sz:Nat}:∀{n i:Nat},(qM e sz i n).length=n
 | 0,_=>rfl
 | n+1,i=>by simp[qM,Kw]
def Iw (T:List (Nat×TI)) (n:Nat) (g:Nat→FV) (t len k:Nat) (ps:List (Nat×Operand)) (ob:List (Option Ob)):Option (List (Option Ob)):=match eN ob k&&(!(Nat.beq len 0))with
 | true=>match cP T t with
  | some ⟨_,_,_,.sl e sz _ zz⟩=>match Nat.ble (len*sz) 16777216&&Nat.beq zz.cells.toList.length sz with
   | true=>match Ii (qM e sz 0 len) ((iQ zz.cells.toList len).map tv) (ps.map fun p=>(p.1,lk n g p.2)) fun l=>all l fun l=>match gU l with
     | true=>ev (.agg l)
     | false=>none with
    | some (_,.agg l)=>BF ob (some ⟨e,sz,l⟩) some
    | _=>none
   | false=>none
  | _=>none
 | false=>none
theorem tG {z:List Value}{n:Nat}:(iQ z n).length=n*z.length:=by
 induction n with
 | zero=>simp[iQ]
 | succ n ih=>simp[iQ,ih,Nat.succ_mul,Nat.add_comm]
theorem Dy {z:List Value}:∀{n j:Nat},j<n*z.length→(iQ z n)[j]? =z[j%z.length]?
 | 0,j,h=>by simp at h
 | n+1,j,h=>by
  unfold iQ
  rcases Nat.lt_or_ge j z.length with h1 | h1
  ·rw[List.getElem?_append_left h1,Nat.mod_eq_of_lt h1]
  rw[List.getElem?_append_right h1,Dy (by rw[Nat.succ_mul]at h;omega)]
  congr 1
  rw[Nat.mod_eq_sub_mod h1]
theorem Xs (hT:cN x.P T){t len k:Nat}{ps:Array (Nat×Operand)}(h:Iw T x.n g t len k ps.toList ob=some ob'):OS x ⟨some d,.buildSlice t len ps,ty,pos,af,gd⟩ g ob [] (fun g' ob2=>g'=bH g d (.one (.sl k 0 len))∧ob2=ob'):=by
 unfold Iw at h
 split at h
 ·rename_i hk
  rw[Bool.and_eq_true]at hk
  obtain⟨hk,hpos⟩:=hk
  split at h
  ·rename_i _ _ _ e sz by_ zz ht
   split at h
   ·rename_i hsm
    rw[Bool.and_eq_true]at hsm
    obtain⟨hsm,hzz⟩:=hsm
    split at h
    ·rename_i l hl
     have h:=Fp h
     injection h with h
     subst h
     have hk:=Nat.eq_of_beq_eq_true hk
     subst hk
     obtain⟨hts,ht',i,hi,hz,hsize,hby,hzs,hsz⟩:=(eY hT ht).2.2.2
     have hzz:=Nat.eq_of_beq_eq_true hzz
     have hlen0:len≠0:=fun e=>by subst e;simp at hpos
     intro cs ts W hR K Q kk
     obtain⟨l',us',r1,r2,r3⟩:=Bn (W:=W) (N:=x.fr W ob cs) (cs:=cs) (us:=iQ zz.cells.toList len) (vs:=ps.toList.map fun p=>(p.1,Act.eval ⟨ts,[]⟩ p.2)) (Um _) hl (by simp) (fun j p q hp hq=>by
      simp only[List.getElem?_map,Option.map_eq_some_iff]at hp hq
      obtain⟨a,ha,rfl⟩:=hp
      obtain⟨b,hb,rfl⟩:=hq
      rw[ha]at hb
      injection hb with hb
      subst hb
      exact⟨rfl,hR.lk _⟩)
     have r4:=Fm r3
     split at r4
     ·rename_i hrd
      obtain⟨_,r5⟩:=pr r4
      injection r5 with r5
      subst r5
      have hlu:=iR r1
      have hsm:=bM hsm
      have hsp:sz≠0:=by omega
      have hlp:¬len*i.size=0:=by rw[hsize];exact Nat.mul_ne_zero hlen0 hsp
      have hzc:((Array.range (len*i.size)).map (zz.cells[· %zz.cells.size]!))=(iQ zz.cells.toList len).toArray:=by
       apply Array.ext'
       rw[hsize]
       apply List.ext_getElem?
       intro j
       simp only[Array.toList_map,Array.toList_range,List.getElem?_map]
       by_cases hj:j<len*sz
       ·rw[List.getElem?_range hj,Dy (by rw[hzz];exact hj)]
        simp only[Option.map_some]
        have hm:j%zz.cells.toList.length<zz.cells.toList.length:=Nat.mod_lt _ (by omega)
        rw[gG hm]
        congr 1
        rw[←Array.length_toList,getElem!_pos zz.cells _ (by simpa using hm)]
        simp
       rw[List.getElem?_eq_none (by simp;omega),List.getElem?_eq_none (by simp[tG,hzz];omega)]
       rfl
      have hfl:kA (fun i=>some (i*sz,sz)) (iQ zz.cells.toList len) (ps.toList.map fun p=>(p.1,Act.eval ⟨ts,[]⟩ p.2))=some us':=by
       have gen:∀(vs:List (Nat×Value)) (cells out:List Value),kA (fun i=>((qM e sz 0 len).map fun x=>(x.1,x.2.2))[i]?) cells vs=some out→kA (fun i=>some (i*sz,sz)) cells vs=some out:=by
        intro vs
        induction vs with
        | nil=>intro cells out h;exact h
        | cons p vs ih=>
         intro cells out h
         obtain⟨i0,v0⟩:=p
         unfold kA at h⊢
         by_cases hi0:i0<len
         ·have e0:((qM e sz 0 len).map fun x=>(x.1,x.2.2))[i0]? =some (i0*sz,sz):=by
           rw[List.getElem?_map,Kv hi0]
           simp
          rw[e0]at h
          dsimp only at h⊢
          cases hb:(Nat.beq v0.cells.toList.length sz&&Nat.ble (i0*sz+v0.cells.toList.length) cells.length)with
          | false=>rw[hb]at h;cases h
          | true=>
           rw[hb]at h
           exact ih _ _ h
         have e0:((qM e sz 0 len).map fun x=>(x.1,x.2.2))[i0]? =none:=by
          apply List.getElem?_eq_none
          simp[Kw]
          omega
         rw[e0]at h
         cases h
       exact gen _ _ _ r2
      have h1:=run_buildSlice (P:=x.P) W t e len (ps.toList.map fun p=>(p.1,Act.eval ⟨ts,[]⟩ p.2)).toArray us'.toArray i zz ht' hi hz (by rw[hsize];omega) hlp (by rw[hzc,hsize];exact Ak _ _ _ us' hfl)
      have hrun:(execOp (Act.eval ⟨ts,[]⟩) ⟨some d,.buildSlice t len ps,ty,pos,af,gd⟩).run x.P W=.ok (.value (.slice (some ⟨W.heap.size,0,none⟩) len len)) (W.alloc (.cells us'.toArray e)):=by
       have e1:(ps.map fun(x:Nat×Operand)=>match x with | (i,x)=>(i,Act.eval ⟨ts,[]⟩ x))=(ps.toList.map fun p=>(p.1,Act.eval ⟨ts,[]⟩ p.2)).toArray:=by apply Array.ext';simp only[Array.toList_map]
       simp[execOp,e1,h1]
      have hul:us'.length=len*sz:=by
       have hinv:∀(vs:List (Nat×Value)) (cells out:List Value),kA (fun i=>some (i*sz,sz)) cells vs=some out→out.length=cells.length:=by
        intro vs
        induction vs with
        | nil=>
         intro cells out h
         simp[kA]at h
         rw[h]
        | cons p vs ih=>
         intro cells out h
         obtain⟨i0,v0⟩:=p
         unfold kA at h
         dsimp only at h
         cases hb:(Nat.beq v0.cells.toList.length sz&&Nat.ble (i0*sz+v0.cells.toList.length) cells.length)with
         | false=>rw[hb]at h;cases h
         | true=>
          rw[hb]at h
          rw[ih _ _ h]
          rw[Bool.and_eq_true]at hb
          have:=bM hb.2
          unfold qK
          simp at this⊢
          omega
       rw[hinv _ _ _ hfl,tG,hzz]
      have hle:len≤len*sz:=Nat.le_mul_of_pos_right _ (by omega)
      obtain⟨m1,m2⟩:=hR.made (t:=e) (z:=sz) (c:=len) r1 hrd (by
       have:Nat.beq sz 0=false:=by
        cases hq:Nat.beq sz 0
        ·rfl
        exact absurd (Nat.eq_of_beq_eq_true hq) hsp
       rw[this]
       exact hul) (by unfold maxLen;omega)
      refine iL hrun (kk _ _ _ _ _ ⟨rfl,rfl⟩ (m1.put d ?_) ((m2 (some d)).then_put _))
      refine jI ?_
      simp only[AR,hR.len,iV]
      exact⟨by simp,0,len,rfl,bC _,by omega,fun _=>rfl,fun _=>rfl⟩
     cases r4
    cases h
   cases h
  cases h
 cases h
end
section
variable {x:Cx}{g g':Nat→FV}{ob ob':List (Option Ob)}{cs cs':List Co}{ts ts':Array Value}{W W':World}{T:List (Nat×TI)}{Q:Post}{ops:Array Oper}{rest:List Oper}
variable {d:Nat}{ty:TypeId}{pos:String}{af:Array Edge}{gd:Option (Nat×Bool)}
inductive SrcA (ob:List (Option Ob)) (z:Nat):AV→Nat→List AV→Prop
 | fz {o:Bool}{t m:Nat}{l:List Tr}:SrcA ob z (.t (.s o t z m l)) m (l.map .t)
 | nil:SrcA ob z (tv (.slice none 0 0)) 0 []
 | sl {k o m t:Nat}{l news:List AV}(h:cT ob k=some ⟨t,z,l⟩) (hl:(l.drop o).take (m*z)=news) (hn:news.length=m*z):SrcA ob z (.sl k o m) m news
theorem SrcA.ok {z m:Nat}{a:AV}{news:List AV}(h:SrcA ob z a m news) (hr:gU news=true) (hR:RelC x g ob cs ts W){u:Value}(hu:AR W (x.fr W ob cs) cs a u):
  ∃A c us,u=.slice A m c∧Rd W W.heap.size z A m c us∧ARL W (x.fr W ob cs) cs news us:=by
 cases h with
 | @fz o t m l=>
  simp only[AR,FR]at hu
  obtain⟨A,c,rfl,h1,h2,h3,h4⟩:=hu
  rcases h4 with h4 | ⟨ad,rfl,h5,h6⟩
  ·subst h4
   have:l=[]:=List.eq_nil_of_length_eq_zero (by simpa using h3)
   subst this
   exact⟨A,c,[],rfl,⟨by simp,h1,h2,fun h=>absurd h (by omega)⟩,by simp[ARL]⟩
  obtain⟨vs,v1,v2,v3⟩:=zK (cs:=cs) (us:=l) (o:=0) h6 (by simp)
  rw[Ei]at v2
  exact⟨_,c,vs,rfl,⟨by rw[v1,h3],h1,h2,fun _=>⟨ad,rfl,h5.1.1,v2⟩⟩,v3⟩
 | nil=>
  simp only[tv,AR,FR]at hu
  subst hu
  exact⟨none,0,[],rfl,Rd.nil,by simp[ARL]⟩
 | @sl k o m t l news h hl hn=>
  have hk:=dM h
  simp only[AR]at hu
  cases hb:(co cs k).b with
  | none=>
   rw[hb]at hu
   obtain⟨_,rfl,rfl,rfl⟩:=hu
   have:news=[]:=List.eq_nil_of_length_eq_zero (by simpa using hn)
   subst this
   exact⟨none,0,[],rfl,Rd.nil,by simp[ARL]⟩
  | some b=>
   rw[hb]at hu
   obtain⟨_,o',c,rfl,h1,h2,h3,_⟩:=hu
   obtain⟨k1,_,_⟩:=hR.blk hk hb
   have hcl:=hR.crl hk
   have h4:=vZ (lB (m*z) (nY o hcl)) (by rw[hl];exact hr)
   rw[hl]at h4
   refine⟨_,c,_,rfl,⟨by rw[iR h4,hn],h1,h2,fun h0=>?_⟩,h4⟩
   obtain rfl:=h3 (.inl h0)
   refine⟨_,rfl,hR.blkS hk b (by simp[aR,hb]),fun j u hj=>?_⟩
   have hlt:j<m*z:=by
    have:=(List.getElem?_eq_some_iff.1 hj).1
    simp at this
    omega
   have h5:((co cs k).l.map VT.val)[o'+j]? =some u:=by
    rw[List.map_take,List.map_drop,List.getElem?_take,if_pos hlt,List.getElem?_drop]at hj
    exact hj
   have h6:=sM k1 h5
   rw[jH]at h6⊢
   simpa using h6
inductive DstA (ob:List (Option Ob)) (e z:Nat):AV→Nat→List (Option Ob)→List AV→Prop
 | nil:DstA ob e z (tv (.slice none 0 0)) 0 ob []
 | sl {k n:Nat}{l:List AV}(h:cT ob k=some ⟨e,z,l⟩) (hl:l.length=n*z):DstA ob e z (.sl k 0 n) n (ob.set k none) l
def OSE (E:List Co→Array Value→Prop) (x:Cx) (o:Oper) (g:Nat→FV) (ob:List (Option Ob)) (Wr:List Nat) (R:(Nat→FV)→List (Option Ob)→Prop):Prop:=
 ∀cs ts W,RelC x g ob cs ts W→E cs ts→∀(K:Act→World→Prop) (Q:Exit→Act→World→Prop),
  (∀g' ob' cs' ts' W',R g' ob'→RelC x g' ob' cs' ts' W'→Aft Wr o.dst ob cs ts W ob' cs' ts' W'→K ⟨ts',[]⟩ W')→o.wp x.P ⟨ts,[]⟩ W K Q
theorem NY {E:List Co→Array Value→Prop}(hT:cN x.P T){t e z by_ n m j:Nat}{zz:Value}{ti:Bool}{ts0:Nat}{z0:List Value}{a b:Operand}{av:AV}{l news:List AV}(ht:cP T t=some ⟨ti,ts0,z0,.sl e z by_ zz⟩) (ha:lk x.n g a=.one av)
  (hd:DstA ob e z av n ob' l) (hs:∀cs ts W,RelC x g ob cs ts W→E cs ts→∃A c us,Act.eval ⟨ts,[]⟩ b=.slice A m c∧Rd W W.heap.size z A m c us∧ARL W (x.fr W ob cs) cs news us) (hr:gU news=true) (hlo:fJ news=true) (hj:eN ob j=true) (hbytes:(n+m)*by_≤140737488355328) (h63:n+m≤140737488355328):
  ∃Wr,OSE E x ⟨some d,.call ⟨.builtin .append, #[a,b], #[t,t]⟩,ty,pos,af,gd⟩ g ob Wr (fun g' ob2=>g'=bH g d (.one (.sl j 0 (n+m)))∧ob2=ob'++[some ⟨e,z,l++news⟩])∧(∀k∈Wr,av=.sl k 0 n):=by
 have hel:=(eY hT ht).2.2.2.2
 have hj:=Nat.eq_of_beq_eq_true hj
 have hz0:z≠0:=by
  obtain⟨_,_,_,_,_,_,_,hsz⟩:=hel
  omega
 have hzb:Nat.beq z 0=false:=by
  cases hq:Nat.beq z 0
  ·rfl
  exact absurd (Nat.eq_of_beq_eq_true hq) hz0
 -- a row that is owned behind the append
 have shape:∀{A':Option Addr}{c' k:Nat}{w':World}{vs:List Value},w'.ownsRow 0 e z (.slice A' k c') k vs→(A'=none∧k=0∧c'=0∧vs=[])∨∃b rest,A'=some ⟨b,0,none⟩∧w'.heap[b]? =some (.cells (vs++rest).toArray e (0,0))∧(vs++rest).length=c'*z∧k≤c'∧c'≤maxLen:=by
  intro A' c' k w' vs h
  rcases h.2 with⟨h1,h2⟩ | ⟨b,cap,cur,h1,_,h2,h3,h4,h5,h6⟩
  ·injection h1 with e1 e2 e3
   refine .inl ⟨e1,e2,e3,?_⟩
   have:=h.1
   rw[h2]at this
   exact List.eq_nil_of_length_eq_zero (by simpa using this)
  injection h1 with e1 e2 e3
  subst e3
  refine .inr ⟨b,cur.toList.drop (k*z),e1,?_,?_,h3,h4⟩
  ·rw[←h6,List.take_append_drop]
   simpa using h2
  rw[←h6,List.take_append_drop]
  simpa using h5
 cases hd with
 | nil=>
  refine⟨[],?_,by simp⟩
  intro cs ts W hR hE K Q kk
  have h1:=hR.lk a
  rw[ha]at h1
  have h1:=bK h1
  obtain⟨A,c,us,e2,hrd,har⟩:=hs cs ts W hR hE
  have hone:=uG har hlo
  obtain⟨A',c',w',hrun,q2,q3,q4⟩:=Gq (P:=x.P) W hel ty 0 _ 0 [] (World.ownsRow_nil W 0 e z) W.heap.size A m c us hrd hone hbytes h63 (Nat.zero_le _)
  have hrun':(execOp (Act.eval ⟨ts,[]⟩) ⟨some d,.call ⟨.builtin .append, #[a,b], #[t,t]⟩,ty,pos,af,gd⟩).run x.P W=.ok (.value (.slice A' (0+m) c')) w':=by
   simp only[execOp,resolve,invoke,builtin,Sem.run_bind,Sem.run_pure,Result.andThen_ok,List.map_toArray,List.map_cons,List.map_nil,h1,e2,hrun]
  have hbel:Below W.heap.size W w':=⟨q3.os,q3.tape,q3.output,q3.size,fun k hk=>q3.block k hk (by simp[Value.ownBlock])⟩
  have hown0:∀c0:Co,(∀b∈(aR (some ⟨e,z,[]++news⟩) c0).S,W.heap.size≤b)→∀b∈eK (ob++[some ⟨e,z,[]++news⟩]) (cs++[c0]),b∈eK ob cs∨W.heap.size≤b:=by
   intro c0 hS b hb
   unfold eK aQ at hb
   rw[List.zipWith_append hR.len,List.flatMap_append,List.mem_append]at hb
   rcases hb with hb | hb
   ·exact .inl hb
   exact .inr (hS b (by simpa using hb))
  have hfin:∀(c0:Co) (hφ:(aR (some ⟨e,z,[]++news⟩) c0).φ w') (hS:∀b∈(aR (some ⟨e,z,[]++news⟩) c0).S,W.heap.size≤b∧b<w'.heap.size) (hn:(aR (some ⟨e,z,[]++news⟩) c0).S.Nodup) (hl:c0.l=us.map .w) (hz:c0.b=none→[]++news=[]∧z≠0) (hv:AR w' (x.fr w' (ob++[some ⟨e,z,[]++news⟩]) (cs++[c0])) (cs++[c0]) (.sl j 0 (0+m)) (.slice A' (0+m) c')),K ⟨ts.setIfInBounds d (.slice A' (0+m) c'),[]⟩ w':=by
   intro c0 hφ hS hn hl hz hv
   have hown:=hown0 c0 (fun b hb=>(hS b hb).1)
   have m1:=hR.push hbel ⟨e,z,[]++news⟩ c0 hφ hS hn (by
    rw[hl]
    exact wA (ARL_keep (fun b h=>hbel.block b h.1.1) (fun b h=>rV h hbel.size hown) .app _ _ har) hr) hz
   exact kk _ _ _ _ _ ⟨rfl,rfl⟩ (m1.put d (jI hv)) ⟨.app,fun k _ hk=>oZ hk,hbel.size,fun b hlt _=>hbel.block b hlt,hown,fun i hi=>Array.getElem?_setIfInBounds_ne (fun e=>hi (by rw[e]))⟩
  refine iL hrun' ?_
  rcases shape q2 with⟨rfl,hk0,rfl,hvs⟩ | ⟨b',rest,rfl,s1,s2,s3,s4⟩
  ·have hus:us=[]:=by simpa using hvs
   subst hus
   have hnews:news=[]:=by
    have:=iR har
    exact List.eq_nil_of_length_eq_zero (by simpa using this.symm)
   refine hfin ⟨none,0,[]⟩ (by simp[aR]) (by simp[aR]) (by simp[aR]) rfl (fun _=>⟨by simp[hnews],hz0⟩) ?_
   simp only[AR]
   rw[←hj,hR.len,iV]
   exact⟨by simp,hk0,by trivial,by rw[hk0]⟩
  have hb':b'=W.heap.size:=by
   rcases q4 with q4 | q4
   ·simp[Value.ownBlock]at q4
   simpa[Value.ownBlock]using q4
  subst hb'
  refine hfin ⟨some W.heap.size,c',us.map .w⟩ ?_ ?_ (by simp[aR,pB]) rfl (fun h=>by cases h) ?_
  ·simp only[aR,xS]
   refine⟨⟨rest,by simpa using s1,?_⟩,xQ us,s4⟩
   rw[hzb,cond_false,←s2]
   simp
  ·intro b hb
   simp[aR,pB]at hb
   subst hb
   exact⟨bC _,(Array.getElem?_eq_some_iff.1 s1).1⟩
  simp only[AR]
  rw[←hj,hR.len,iV]
  exact⟨by simp,0,c',rfl,s3,by unfold maxLen at s4;omega,fun _=>rfl,fun _=>rfl⟩
 | @sl k n l h hl=>
  refine⟨[k],?_,by simp⟩
  have hk:=dM h
  intro cs ts W hR hE K Q kk
  have h1:=hR.lk a
  rw[ha]at h1
  obtain⟨A,c,us,e2,hrd,har⟩:=hs cs ts W hR hE
  have hone:=uG har hlo
  have hcl:=hR.crl hk
  have hl1:(co cs k).l.length=n*z:=by rw[rZ hcl];exact hl
  have hul:us.length=m*z:=hrd.len
  -- what it is owned as
  have hown:∃v0,Act.eval ⟨ts,[]⟩ a=v0∧W.ownsRow 0 e z v0 n ((co cs k).l.map VT.val)∧(∀b0,(co cs k).b=some b0→v0.ownBlock=some b0)∧((co cs k).b=none→v0.ownBlock=none):=by
   simp only[bO,cD,AR]at h1
   cases hbb:(co cs k).b with
   | none=>
    rw[hbb]at h1
    obtain⟨_,rfl,_,e1⟩:=h1
    refine⟨_,e1,⟨by simpa using hl1,.inl ⟨rfl,rfl⟩⟩,fun b0 h=>by(cases h),fun _=>rfl⟩
   | some b0=>
    rw[hbb]at h1
    obtain⟨_,o',c0,e1,h3,h4,h5,h6⟩:=h1
    obtain rfl:=h5 (.inr trivial)
    have h6:=h6 trivial
    obtain⟨⟨rest,k1,k1l⟩,k2,k3⟩:=hR.blk hk hbb
    dsimp only at k1 k1l
    rw[hzb,cond_false]at k1l
    refine⟨_,e1,⟨by simpa using hl1,.inr ⟨b0,c0,_,rfl,Nat.zero_le _,k1,h3,by rw[h6];exact k3,by rw[h6];simpa using k1l,?_⟩⟩,fun b1 h=>by(injection h with h;subst h;rfl),fun h=>by(cases h)⟩
    rw[←hl1]
    simp
  obtain⟨v0,e1,hw,hob1,hob2⟩:=hown
  obtain⟨A',c',w',hrun,q2,q3,q4⟩:=Gq (P:=x.P) W hel ty 0 v0 n _ hw W.heap.size A m c us hrd hone hbytes h63 (Nat.zero_le _)
  have hrun':(execOp (Act.eval ⟨ts,[]⟩) ⟨some d,.call ⟨.builtin .append, #[a,b], #[t,t]⟩,ty,pos,af,gd⟩).run x.P W=.ok (.value (.slice A' (n+m) c')) w':=by
   simp only[execOp,resolve,invoke,builtin,Sem.run_bind,Sem.run_pure,Result.andThen_ok,List.map_toArray,List.map_cons,List.map_nil,e1,e2,hrun]
  have hchg:Chg (aR (some ⟨e,z,l⟩) (co cs k)).S W w':=⟨q3.os,q3.tape,q3.output,q3.size,fun j hj hne=>q3.block j hj (fun he=>hne (by
   cases hbb:(co cs k).b with
   | none=>rw[hob2 hbb]at he;cases he
   | some b0=>
    rw[hob1 b0 hbb]at he
    injection he with he
    simp[aR,hbb,he]))⟩
  have hnd:(aR (some ⟨e,z,l⟩) (co cs k)).S.Nodup:=hR.2.nd1 (List.mem_of_getElem? (cJ hR.len hk))
  have hnS:∀b∈VT.fpL (co cs k).l,(co cs k).b≠none→b∈(aR (some ⟨e,z,l⟩) (co cs k)).S:=fun b hb hne=>by
   cases hbb:(co cs k).b with
   | none=>exact absurd hbb hne
   | some b0=>simp[aR,hbb,hb]
  have hfin:∀(c1:Co) (hφ:(aR (some ⟨e,z,l++news⟩) c1).φ w') (hS:∀b∈(aR (some ⟨e,z,l++news⟩) c1).S,b∈(aR (some ⟨e,z,l⟩) (co cs k)).S∨(W.heap.size≤b∧b<w'.heap.size)) (hn:(aR (some ⟨e,z,l++news⟩) c1).S.Nodup) (hl:c1.l=(co cs k).l++us.map .w) (hz:c1.b=none→l++news=[]∧z≠0) (hv:AR w' (x.fr w' (ob.set k none++[some ⟨e,z,l++news⟩]) (cs++[c1])) (cs++[c1]) (.sl j 0 (n+m)) (.slice A' (n+m) c')),K ⟨ts.setIfInBounds d (.slice A' (n+m) c'),[]⟩ w':=by
   intro c1 hφ hS hn hl hz hv
   obtain⟨m1,m2⟩:=hR.move hk ⟨e,z,l++news⟩ c1 hchg hφ hS hn (fun hk' hN=>by
    rw[hl]
    exact Bq (dN hk' hN .app _ _ hcl) (wA (ARL_keep hk' hN .app _ _ har) hr)) hz
   exact kk _ _ _ _ _ ⟨rfl,rfl⟩ (m1.put d (jI hv)) ((m2 (some d)).then_put _)
  refine iL hrun' ?_
  rcases shape q2 with⟨rfl,hk0,rfl,hvs⟩ | ⟨b',rest,rfl,s1,s2,s3,s4⟩
  ·have h7:(co cs k).l=[]∧us=[]:=by simpa using hvs
   have hl':l=[]:=List.eq_nil_of_length_eq_zero (by have:=rZ hcl;dsimp only at this;rw[h7.1]at this;simpa using this.symm)
   have hnews:news=[]:=List.eq_nil_of_length_eq_zero (by have:=iR har;rw[h7.2]at this;simpa using this.symm)
   refine hfin ⟨none,0,[]⟩ (by simp[aR]) (by simp[aR]) (by simp[aR]) (by simp[h7.1,h7.2]) (fun _=>⟨by simp[hl',hnews],hz0⟩) ?_
   simp only[AR]
   rw[←hj,hR.len,iV]
   exact⟨by simp,hk0,by trivial,by rw[hk0]⟩
  have hkb:(co cs k).b=none→(co cs k).l=[]:=fun hbb=>by
   have:=(hR.obs.2 k _ hk).2 hbb
   dsimp only at this
   have h8:=rZ hcl
   dsimp only at h8
   rw[this.1]at h8
   exact List.eq_nil_of_length_eq_zero (by simpa using h8)
  have hfpS:∀b∈VT.fpL (co cs k).l,b∈(aR (some ⟨e,z,l⟩) (co cs k)).S:=fun b hb=>hnS b hb (fun hbb=>by rw[hkb hbb]at hb;simp[VT.fpL]at hb)
  have hb':(∃b0,(co cs k).b=some b0∧b'=b0)∨b'=W.heap.size:=by
   rcases q4 with q4 | q4
   ·cases hbb:(co cs k).b with
    | none=>rw[hob2 hbb]at q4;simp[Value.ownBlock]at q4
    | some b0=>
     rw[hob1 b0 hbb]at q4
     exact .inl ⟨b0,rfl,by simpa[Value.ownBlock]using q4⟩
   exact .inr (by simpa[Value.ownBlock]using q4)
  have hbn:b'∉VT.fpL (co cs k).l:=by
   intro hm
   rcases hb' with⟨b0,h8,rfl⟩ | rfl
   ·simp only[aR,h8]at hnd
    exact(List.nodup_cons.1 hnd).1 hm
   have:=hR.blkS hk _ (hfpS _ hm)
   omega
  refine hfin ⟨some b',c',(co cs k).l++us.map .w⟩ ?_ ?_ ?_ rfl (fun h=>by cases h) ?_
  ·simp only[aR,List.map_append,xS]
   refine⟨⟨rest,s1,?_⟩,(qG _ _).2 ⟨VT.okL_keep _ (W:=W) (fun b hb=>?_) ?_,xQ us⟩,s4⟩
   ·rw[hzb,cond_false,←s2]
   ·refine q3.block b (hR.blkS hk b (hfpS b hb)) (fun he=>?_)
    cases hbb:(co cs k).b with
    | none=>rw[hob2 hbb]at he;cases he
    | some b0=>
     rw[hob1 b0 hbb]at he
     injection he with he
     subst he
     simp only[aR,hbb]at hnd
     exact(List.nodup_cons.1 hnd).1 hb
   cases hbb:(co cs k).b with
   | none=>rw[hkb hbb];simp[VT.okL]
   | some b0=>exact(hR.blk hk hbb).2.1
  ·intro b hb
   simp only[aR,mQ,pB,List.append_nil]at hb
   rcases List.mem_cons.1 hb with rfl | hb
   ·rcases hb' with⟨b0,h8,rfl⟩ | rfl
    ·exact .inl (by simp[aR,h8])
    exact .inr ⟨bC _,(Array.getElem?_eq_some_iff.1 s1).1⟩
   exact .inl (hfpS b hb)
  ·simp only[aR,mQ,pB,List.append_nil]
   refine List.nodup_cons.2 ⟨hbn,?_⟩
   cases hbb:(co cs k).b with
   | none=>rw[hkb hbb];simp[VT.fpL]
   | some b0=>
    simp only[aR,hbb]at hnd
    exact(List.nodup_cons.1 hnd).2
  simp only[AR]
  rw[←hj,hR.len,iV]
  exact⟨by simp,0,c',rfl,s3,by unfold maxLen at s4;omega,fun _=>rfl,fun _=>rfl⟩
theorem Py (hT:cN x.P T){t e z by_ n m j:Nat}{zz:Value}{ti:Bool}{ts0:Nat}{z0:List Value}{a b:Operand}{av bv:AV}{l news:List AV}(ht:cP T t=some ⟨ti,ts0,z0,.sl e z by_ zz⟩) (ha:lk x.n g a=.one av) (hb:lk x.n g b=.one bv)
  (hd:DstA ob e z av n ob' l) (hs:SrcA ob z bv m news) (hr:gU news=true) (hlo:fJ news=true) (hj:eN ob j=true) (hbytes:(n+m)*by_≤140737488355328) (h63:n+m≤140737488355328):
  ∃Wr,OS x ⟨some d,.call ⟨.builtin .append, #[a,b], #[t,t]⟩,ty,pos,af,gd⟩ g ob Wr (fun g' ob2=>g'=bH g d (.one (.sl j 0 (n+m)))∧ob2=ob'++[some ⟨e,z,l++news⟩])∧(∀k∈Wr,av=.sl k 0 n):=by
 obtain⟨Wr,h,h2⟩:=NY (x:=x) (g:=g) (E:=fun _ _=>True) (d:=d) (ty:=ty) (pos:=pos) (af:=af) (gd:=gd) (b:=b) hT ht ha hd (fun cs ts W hR _=>by
  have h2:=hR.lk b
  rw[hb]at h2
  exact hs.ok hr hR h2) hr hlo hj hbytes h63
 exact⟨Wr,fun cs ts W hR=>h cs ts W hR trivial,h2⟩
end
def aT (r:FV):List Lt→FV→Prop:=fun _ r'=>r'=r
def Xt (ob:List (Option Ob)):Nat→List Lt→Prop
 | _,[]=>True
 | i,a::l=>cT ob i=some a.ob∧Xt ob (i+1) l
def HU:List Lt→List Lt→Prop
 | [],[]=>True
 | a::l,b::l'=>(b.t=a.t∧b.z=a.z)∧HU l l'
 | _,_=>False
def Pz (m:Nat):List Lt→Prop
 | []=>True
 | a::l=>refCs m a.l=true∧Pz m l
theorem dF {m:Nat}:∀(l:List Tr),refCs m (l.map .t)=true
 | []=>rfl
 | x::l=>by simp[refCs,zO,dF l]
theorem Kx {ob:List (Option Ob)}:∀{l:List Lt}{i j:Nat}{a:Lt},Xt ob i l→l[j]? =some a→cT ob (i+j)=some a.ob
 | [],_,_,_,_,h=>by simp at h
 | b::l,i,0,a,h,hj=>by
  simp at hj
  subst hj
  exact h.1
 | b::l,i,j+1,a,h,hj=>by
  have:=Kx (j:=j) h.2 (by simpa using hj)
  rwa[show i+1+j=i+(j+1) by omega]at this
theorem Qa:∀{l l':List Lt},HU l l'→l'.length=l.length∧∀(i:Nat) (a b:Lt),l[i]? =some a→l'[i]? =some b→b.t=a.t∧b.z=a.z
 | [],[],_=>⟨rfl,fun _ _ _ h=>by simp at h⟩
 | a::l,b::l',h=>by
  obtain⟨h1,h2⟩:=Qa h.2
  refine⟨by simp[h1],fun i a' b' ha hb=>?_⟩
  cases i with
  | zero=>
   simp at ha hb
   subst ha hb
   exact h.1
  | succ i=>exact h2 i a' b' (by simpa using ha) (by simpa using hb)
 | [],_::_,h=>h.elim
 | _::_,[],h=>h.elim
theorem Ft {m:Nat}:∀{l:List Lt},Pz m l→∀a∈l,refCs m a.l=true
 | [],_,_,h=>by simp at h
 | b::l,h,a,ha=>by
  rcases List.mem_cons.1 ha with rfl | ha
  ·exact h.1
  exact Ft h.2 a ha
section
variable {m:Nat}{x:Cx}{g g':Nat→FV}{ob ob':List (Option Ob)}{T:List (Nat×TI)}{Q:Post}{ops:Array Oper}{rest:List Oper}{d:Nat}{ty:TypeId}{pos:String}{af:Array Edge}{gd:Option (Nat×Bool)}
theorem bV {fresh:Bool}{P:Program}{f:FuncId}{fn:Func}{c:Code}{n:Nat}{rv:List ResultVar}{args:List FV}{R:List Lt→FV→Prop}(hf:P.funcs[f]? =some fn) (hb:fn.body=some c) (hn:fn.ntmps=n) (hrv:fn.results.toList=rv) (hT:cN P T) (hle:Nat.ble args.length n=true)
  (h:∀N w c0,c0.length=0→WP ⟨P,N,[],w,n,c0⟩ c (bP (lZ 0 args)) [] (rH ⟨P,N,[],w,n,c0⟩ T rv fresh [] R)):aE fresh P f [] args R:=by
 subst hn hrv
 refine Ux hf hb T hT hle ?_
 rintro⟨P',N,M,w,n,c0⟩ rfl rfl h0 hM
 obtain rfl:=hM rfl
 exact h N w c0 h0
theorem en {fresh:Bool}{rv:List ResultVar}{R:List Lt→FV→Prop}{e:Exit}{rs:List FV}{r:FV}{ks:List Nat}(he:e=.ret∨e=.normal) (res:uS T x.n g ob rv=some rs) (pk:Pu ob 0 rs r ks) (nd:ks.Nodup) (clean:fresh=true→lD r) (post:R [] r):rH x T rv fresh [] R e g ob:=by
 rcases he with rfl | rfl <;> exact⟨rs,r,ks,[],res,pk,nd,fun _ _=>Nat.zero_le _,rfl,fun _ _ _ h=>by simp at h,fun _ _ h=>by simp at h,fun _ h=>by simp at h,fun h=>⟨clean h,by simp⟩,post⟩
theorem qS {fresh:Bool}{P:Program}{f:FuncId}{fn:Func}{c:Code}{n:Nat}{rv:List ResultVar}{lent:List Lt}{args:List FV}{R:List Lt→FV→Prop}(hf:P.funcs[f]? =some fn) (hb:fn.body=some c) (hn:fn.ntmps=n) (hrv:fn.results.toList=rv) (hT:cN P T) (hle:Nat.ble args.length n=true)
  (h:∀N M w c0,c0.length=lent.length→WP ⟨P,N,M,w,n,c0⟩ c (bP (lZ 0 args)) (cB lent) (rH ⟨P,N,M,w,n,c0⟩ T rv fresh lent R)):aE fresh P f lent args R:=by
 subst hn hrv
 refine Ux hf hb T hT hle ?_
 rintro⟨P',N,M,w,n,c0⟩ rfl rfl h0 _
 exact h N M w c0 h0
theorem jS {fresh:Bool}{rv:List ResultVar}{R:List Lt→FV→Prop}{e:Exit}{rs:List FV}{r:FV}{ks:List Nat}{lent lent':List Lt}(he:e=.ret∨e=.normal) (res:uS T x.n g ob rv=some rs) (pk:Pu ob lent.length rs r ks) (nd:ks.Nodup) (far:∀k∈ks,lent.length≤k) (ty:HU lent lent') (obs:Xt ob 0 lent') (refs:Pz lent.length lent') (clean:fresh=true→lD r∧∀a∈lent',mJ a.l) (post:R lent' r):rH x T rv fresh lent R e g ob:=by
 obtain⟨t1,t2⟩:=Qa ty
 have h9:EndA x T rv fresh lent R g ob rs r ks lent':=⟨res,pk,nd,far,t1,t2,fun i a h=>by have:=Kx obs h;rwa[Nat.zero_add]at this,Ft refs,clean,post⟩
 rcases he with rfl | rfl <;> exact⟨rs,r,ks,lent',h9⟩
theorem bD {v r:FV}{ks:List Nat}(h:PkF ob m v r ks):Pu ob m [v] r ks:=.inl ⟨v,rfl,h⟩
theorem sX {a b r s:FV}{l:List FV}{ks:List Nat}(h:PkT ob m (a::b::l) [r,s] ks):Pu ob m (a::b::l) (.tup [r,s]) ks:=.inr ⟨by simp,_,rfl,h⟩
theorem Dz {a b c r s t:FV}{ks:List Nat}(h:PkT ob m [a,b,c] [r,s,t] ks):Pu ob m [a,b,c] (.tup [r,s,t]) ks:=.inr ⟨by simp,_,rfl,h⟩
theorem Ch:Pu ob m [] (.tup []) []:=.inr ⟨by simp,_,rfl,.nil⟩
theorem cX (v:Value):PkF ob m (.one (tv v)) (.one (tv v)) []:=.one (.id rfl)
theorem TU {fresh:Bool}{f:FuncId}{args:List FV}{r v:FV}{aa:Array Operand}{ats:Array TypeId}(hw:bI ops x.n g gd=some true) (hS:aE fresh x.P f [] args (aT r)) (hf:CallOk x.P f) (ha:AL fresh x g ob aa.toList args) (hv:zS r=v) (k:WL x ops rest (bH g d v) ob Q):
  WL x ops (⟨some d,.call ⟨.value (.func f),aa,ats⟩,ty,pos,af,gd⟩::rest) g ob Q:=
 jT (Iu hS hf ha) hw (by rintro _ _ ⟨r',rfl,rfl,rfl⟩;rw[hv];exact k)
theorem aAo {t len key:Nat}{ps:Array (Nat×Operand)}(hT:cN x.P T) (hw:bI ops x.n g gd=some true) (h:Iw T x.n g t len key ps.toList ob=some ob') (k:WL x ops rest (bH g d (.one (.sl key 0 len))) ob' Q):WL x ops (⟨some d,.buildSlice t len ps,ty,pos,af,gd⟩::rest) g ob Q:=
 jT (Xs hT h) hw (by rintro _ _ ⟨rfl,rfl⟩;exact k)
theorem iA {t e z by_ n m j:Nat}{zz:Value}{ti:Bool}{ts0:Nat}{z0:List Value}{a b:Operand}{av bv:AV}{l news:List AV}(hT:cN x.P T) (hw:bI ops x.n g gd=some true) (ht:cP T t=some ⟨ti,ts0,z0,.sl e z by_ zz⟩) (ha:lk x.n g a=.one av) (hb:lk x.n g b=.one bv)
  (hd:DstA ob e z av n ob' l) (hs:SrcA ob z bv m news) (hr:gU news=true) (hlo:fJ news=true) (hj:eN ob j=true) (hbytes:(n+m)*by_≤140737488355328) (h63:n+m≤140737488355328)
  (k:WL x ops rest (bH g d (.one (.sl j 0 (n+m)))) (ob'++[some ⟨e,z,l++news⟩]) Q):WL x ops (⟨some d,.call ⟨.builtin .append, #[a,b], #[t,t]⟩,ty,pos,af,gd⟩::rest) g ob Q:=by
 obtain⟨Wr,h,_⟩:=Py (d:=d) (ty:=ty) (pos:=pos) (af:=af) (gd:=gd) hT ht ha hb hd hs hr hlo hj hbytes h63
 exact jT h hw (by rintro _ _ ⟨rfl,rfl⟩;exact k)
theorem WL.sub (h:Sub x g ob g' ob') (k:WL x ops rest g' ob' Q):WL x ops rest g ob Q:=fun ts W hR=>k ts W (h ts W hR)
end
end Go.Proofs.YtbbabfkgdnkehaaGreat
