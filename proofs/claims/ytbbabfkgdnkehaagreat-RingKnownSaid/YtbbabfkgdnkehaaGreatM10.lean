/- Part 10 of a proof: Vi to B5. -/
import Derived.Test.YtbbabfkgdnkehaaGreatM9
import Derived.Test.YtbbabfkgdnkehaaGreatM8
import Derived.Test.YtbbabfkgdnkehaaGreatM7
import Derived.Test.YtbbabfkgdnkehaaGreatM5
set_option maxRecDepth 100000
set_option linter.unusedVariables false
set_option linter.unusedSimpArgs false
namespace Go.Proofs.YtbbabfkgdnkehaaGreat
open Go Go.RowKit
def Rg.ms (R:Rg) (t:Nat):List Bool:=(List.range R.E).map (R.mem t)
def Rg.bs (R:Rg) (t:Nat):List Rat:=(List.range R.E).map (R.base t)
def Rg.by9 (R:Rg) (U:List Ur) (t:Nat):List Rat:=(List.range R.E).map fun(e:Nat)=>dT U t e
def Rg.lp (R:Rg) (e:Nat):Nat→Int×Bool
 | 0=>(0,false)
 | t+1=>bif R.isV t e then((t:Int),true)else R.lp e t
def Rg.own (R:Rg) (U:List Ur) (I:List Nat) (t:Nat):List (List (Int×Rat)×Int×Bool):=(List.range R.E).map fun e=>(R.wl U e I,(R.lp e t).1,(R.lp e t).2)
section
variable {R:Rg}{U:List Ur}{x c:Nat→Nat→Rat}{N y e e' t k:Nat}{m:Rat}{I:List Nat}
open Rg
theorem Am {α:Type}{f g:Nat→α}{E:Nat}(he:e<E) (h:∀z,z<E→z≠e→f z=g z):((List.range E).map f).set e (g e)=(List.range E).map g:=
 Cy List.nodup_range (by rw[List.getElem?_range he]) fun z hz hne=>h z (List.mem_range.1 hz) hne
theorem sA {α:Type}{f:Nat→α}{E:Nat}{d:α}(he:e<E):((List.range E).map f).getD e d=f e:=by simp[he]
theorem oD (he:e<R.E):fI (R.by9 U t) e=dT U t e:=sA he
theorem mZ (he:e<R.E):fI (R.bs t) e=R.base t e:=sA he
theorem Gt (he:e<R.E):dU (R.own U I t) e=(R.wl U e I,(R.lp e t).1,(R.lp e t).2):=sA he
theorem nA (he:e<R.E):nM (R.ms t) e=R.mem t e:=sA he
theorem jE:(R.by9 U t).length=R.E:=by simp[Rg.by9]
theorem iB:(R.bs t).length=R.E:=by simp[Rg.bs]
theorem lM:(R.own U I t).length=R.E:=by simp[Rg.own]
theorem lH:(R.ms t).length=R.E:=by simp[Rg.ms]
theorem Mx (h:0<m){v:Int}:dZ (us U v e t m) t=dZ U t+m:=by rw[kP h,Gu,if_pos rfl]
theorem Yy (h:0<m){v:Int}:dT (us U v e t m) t e=dT U t e+m:=by rw[kP h,sB,if_pos ⟨rfl,rfl⟩]
theorem Jx (h:e'≠e){v:Int}:dT (us U v e t m) t e'=dT U t e':=by
 unfold Rg.us
 split
 ·rw[sB,if_neg (by omega)]
 rfl
theorem Yz (he:e<R.E) (hm:0<m){v:Int}:(R.by9 U t).set e (dT U t e+m)=R.by9 (us U v e t m) t:=by
 rw[←Yy hm (v:=v)]
 exact Am (f:=fun(e:Nat)=>dT U t e) (g:=fun(e':Nat)=>dT (us U v e t m) t e') he fun z _ hne=>(Jx hne).symm
theorem QK (he:e<R.E) (hI:I.Pairwise (· < ·)) (h0:∀i∈I,0≤R.left U i e) (hy:y∈I) (hm:0<m) (hle:m≤R.left U y e):(R.own U I t).set e ((aX (y:Int) (R.wl U e I) m).1.filter (fun x=> !oO x.1 x.2),(R.lp e t).1,(R.lp e t).2)=R.own (us U y e t m) I t:=by
 rw[Sy (t:=t) hm hle h0 hI hy]
 exact Am (f:=fun e=>(R.wl U e I,(R.lp e t).1,(R.lp e t).2)) (g:=fun e'=>(R.wl (us U y e t m) e' I,(R.lp e' t).1,(R.lp e' t).2)) he fun z _ hne=>by
  have:R.wl U z I=R.wl (us U y e t m) z I:=Cz fun j _=>(oP (fun h9=>hne h9.2.symm)).symm
  rw[this]
theorem VV {I:List Nat}(h:∀i∈I,Sz 300 (R.left U i e)):StOk (R.wl U e I) I.length (301*I.length):=by
 induction I with
 | nil=>exact⟨fun x hx=>(by cases hx),bC _,bC _⟩
 | cons i I ih=>
  obtain⟨h1,h2,h3⟩:=ih fun j hj=>h j (List.mem_cons_of_mem _ hj)
  by_cases hp:0<R.left U i e
  ·rw[kQ hp]
   have h4:=nB.1 (h i (List.mem_cons_self ..))
   refine⟨fun x hx=>?_,by simp only[List.length_cons];omega,?_⟩
   ·rcases List.mem_cons.1 hx with rfl | hx
    ·exact hp
    exact h1 x hx
   simp only[List.map_cons,gS,List.sum_cons,List.length_cons,wt]at h3⊢
   omega
  rw[nC hp]
  exact⟨h1,by simp only[List.length_cons];omega,by simp only[List.length_cons];omega⟩
theorem EA (h:(y,e)∈R.vl k) (hm:0<m){v:Vn}(hv:aY (R.vns U x c (R.vl k)) (dH (cW (y:Int) (e:Int)) (R.vns U x c (R.vl k)))=v):(R.vns U x c (R.vl k)).set (dH (cW (y:Int) (e:Int)) (R.vns U x c (R.vl k))) ⟨v.y,v.e,v.l,v.u+m,v.x,v.c⟩=R.vns (us U y e t m) x c (R.vl k):=by
 have h1:=An (R:=R) (U:=U) (x:=x) (c:=c) h
 have h2:v=R.vn U x c (y,e):=by
  rw[←hv,aY,List.getD_eq_getElem?_getD,h1]
  rfl
 rw[h2]
 exact LY (p:=(y,e)) (gV k) h hm
theorem QL (h:(y,e)∈R.vl k):aY (R.vns U x c (R.vl k)) (dH (cW (y:Int) (e:Int)) (R.vns U x c (R.vl k)))=R.vn U x c (y,e):=by
 have h1:=An (R:=R) (U:=U) (x:=x) (c:=c) h
 rw[aY,List.getD_eq_getElem?_getD,h1]
 rfl
theorem Gv {v e:Int}:(us U v e t m).length≤U.length+1:=by
 unfold Rg.us
 split <;> simp
end
def Rg.vlk (R:Rg) (t e:Nat):List (Nat×Nat):=R.vl t++((List.range e).filter (R.isV t)).map fun e=>(t,e)
def Rg.own1 (R:Rg) (U:List Ur) (t k:Nat):List (List (Int×Rat)×Int×Bool):=(List.range R.E).map fun e=>if e<k then(R.wl U e (R.I t++[t]),(R.lp e (t+1)).1,(R.lp e (t+1)).2)else(R.wl U e (R.I t),(R.lp e t).1,(R.lp e t).2)
def Rg.own2 (R:Rg) (U:List Ur) (t k:Nat):List (List (Int×Rat)×Int×Bool):=(List.range R.E).map fun e=>if e<k then(R.wl U e (R.I (t+1)),(R.lp e (t+1)).1,(R.lp e (t+1)).2)else(R.wl U e (R.I t++[t]),(R.lp e (t+1)).1,(R.lp e (t+1)).2)
def Rg.ex (R:Rg) (U:List Ur) (k y e:Nat):Rat:=if y+R.f<k then R.left U y e else 0
def Rg.exk (R:Rg) (U:List Ur) (t e:Nat) (b:Bool) (y e':Nat):Rat:=if e'<e∨(e'=e∧b=true)then R.ex U (t+1) y e' else R.ex U t y e'
section
variable {R:Rg}{U:List Ur}{N y e e' t k:Nat}{p:Ur→Bool}
open Rg
theorem nN (h:∀u∈U,p u=false):iY U p=0:=by
 unfold iY
 rw[List.filter_eq_nil_iff.2 fun u hu=>by rw[h u hu];simp]
 rfl
theorem Gw {u:Ur}(h:u∈R.use U y e t):u∈U∨(u.v=y∧u.e=e∧u.y=t):=by
 unfold Rg.use Rg.us at h
 split at h
 ·rcases List.mem_append.1 h with h | h
  ·exact .inl h
  rw[List.mem_singleton]at h
  subst h
  exact .inr ⟨rfl,rfl,rfl⟩
 exact .inl h
theorem Da {u:Ur}:∀(L:List (Nat×Nat)) (V:List Ur),u∈L.foldl (fun U p=>R.use U p.1 p.2 t) V→u∈V∨∃p∈L,u.v=(p.1:Int)∧u.e=(p.2:Int)∧u.y=t
 | [],V,h=>.inl h
 | p::L,V,h=>by
  rw[List.foldl_cons]at h
  rcases Da L _ h with h | ⟨q,hq,h⟩
  ·rcases Gw h with h | h
   ·exact .inl h
   exact .inr ⟨p,List.mem_cons_self ..,h⟩
  exact .inr ⟨q,List.mem_cons_of_mem _ hq,h⟩
theorem mO {u:Ur}:∀{k:Nat},u∈R.run k→∃y e t:Nat,u.v=y∧u.e=e∧u.y=t∧y<t∧t<k∧R.may t (y,e)=true∧e<R.E
 | 0,h=>by cases h
 | k+1,h=>by
  rcases Da _ _ h with h | ⟨p,hp,h1,h2,h3⟩
  ·obtain⟨y,e,t,h1,h2,h3,h4,h5,h6⟩:=mO (k:=k) h
   exact⟨y,e,t,h1,h2,h3,h4,by omega,h6⟩
  rw[List.mem_filter,fK]at hp
  exact⟨p.1,p.2,k,h1,h2,h3,hp.1.1,by omega,hp.2,hp.1.2.1⟩
theorem Gx (h:k≤y+1):cU (R.run k) y e=0:=nN fun u hu=>by
 obtain⟨y',e',t',h1,h2,h3,h4,h5,_⟩:=mO hu
 have:decide (u.v=(y:Int))=false:=decide_eq_false (by omega)
 simp[this]
theorem My (h:k≤y+1):R.left (R.run k) y e=R.los y e:=by
 unfold Rg.left
 rw[Gx h]
 grind
theorem Ta (h:k≤y):dZ (R.run k) y=0:=nN fun u hu=>by
 obtain⟨y',e',t',h1,h2,h3,h4,h5,_⟩:=mO hu
 exact decide_eq_false (by omega)
theorem Tb {e:Int}(h:k≤y):dT (R.run k) y e=0:=nN fun u hu=>by
 obtain⟨y',e',t',h1,h2,h3,h4,h5,_⟩:=mO hu
 have:decide (u.y=(y:Int))=false:=decide_eq_false (by omega)
 simp[this]
theorem Za (h:R.may t (y,e)=false):R.left (R.step U t) y e=R.left U y e:=by
 unfold Rg.step
 exact rR (p:=(y,e)) _ _ fun hm=>by
  have:=(List.mem_filter.1 hm).2
  rw[h]at this
  cases this
theorem Mz:R.ex (R.step U t) t=R.ex U t:=by
 funext y e
 unfold Rg.ex
 by_cases h:y+R.f<t
 ·rw[if_pos h,if_pos h]
  refine Za ?_
  unfold Rg.may
  have:decide (t≤y+R.f)=false:=decide_eq_false (by omega)
  simp[this]
 rw[if_neg h,if_neg h]
theorem Zb (h:t≤y):R.ex U t y e=0:=if_neg (by omega)
theorem JK:∀{t:Nat},(R.lp e t).2=true→(R.lp e t).1<(t:Int)
 | 0,h=>by cases h
 | t+1,h=>by
  unfold Rg.lp at h⊢
  cases hv:R.isV t e
  ·rw[hv]at h
   have:=JK (t:=t) h
   show(R.lp e t).1<_
   omega
  show(t:Int)<_
  omega
theorem Db:R.vlk t 0=R.vl t:=by simp[Rg.vlk]
theorem Tc:R.vlk t R.E=R.vl (t+1):=rfl
theorem Td (h:R.isV t e=true):R.vlk t (e+1)=R.vlk t e++[(t,e)]:=by
 unfold Rg.vlk
 rw[List.range_succ,List.filter_append,List.filter_cons_of_pos h]
 simp
theorem Zc (h:R.isV t e=false):R.vlk t (e+1)=R.vlk t e:=by
 unfold Rg.vlk
 rw[List.range_succ,List.filter_append,List.filter_cons_of_neg (by simp[h])]
 simp
theorem Zd:R.own1 U t 0=R.own U (R.I t) t:=by
 unfold Rg.own1 Rg.own
 exact List.map_congr_left fun e _=>if_neg (by omega)
theorem EB:R.own1 U t R.E=R.own2 U t 0:=by
 unfold Rg.own1 Rg.own2
 exact List.map_congr_left fun e he=>by rw[if_pos (List.mem_range.1 he),if_neg (by omega)]
theorem EC:R.own2 U t R.E=R.own U (R.I (t+1)) (t+1):=by
 unfold Rg.own2 Rg.own
 exact List.map_congr_left fun e he=>if_pos (List.mem_range.1 he)
theorem Na (he:e<R.E):dU (R.own1 U t e) e=(R.wl U e (R.I t),(R.lp e t).1,(R.lp e t).2):=by
 have h:=sA (f:=fun e'=>if e'<e then(R.wl U e' (R.I t++[t]),(R.lp e' (t+1)).1,(R.lp e' (t+1)).2)else(R.wl U e' (R.I t),(R.lp e' t).1,(R.lp e' t).2)) (d:=([],0,false)) he
 rw[if_neg (by omega)]at h
 exact h
theorem ED (he:e<R.E):dU (R.own2 U t e) e=(R.wl U e (R.I t++[t]),(R.lp e (t+1)).1,(R.lp e (t+1)).2):=by
 have h:=sA (f:=fun e'=>if e'<e then(R.wl U e' (R.I (t+1)),(R.lp e' (t+1)).1,(R.lp e' (t+1)).2)else(R.wl U e' (R.I t++[t]),(R.lp e' (t+1)).1,(R.lp e' (t+1)).2)) (d:=([],0,false)) he
 rw[if_neg (by omega)]at h
 exact h
theorem iW:(R.own1 U t k).length=R.E:=by simp[Rg.own1]
theorem Dc:(R.own2 U t k).length=R.E:=by simp[Rg.own2]
theorem Nb (he:e<R.E):(R.own1 U t e).set e (R.wl U e (R.I t++[t]),(R.lp e (t+1)).1,(R.lp e (t+1)).2)=R.own1 U t (e+1):=by
 have h:=Am (f:=fun e'=>if e'<e then(R.wl U e' (R.I t++[t]),(R.lp e' (t+1)).1,(R.lp e' (t+1)).2)else(R.wl U e' (R.I t),(R.lp e' t).1,(R.lp e' t).2)) (g:=fun e'=>if e'<e+1 then(R.wl U e' (R.I t++[t]),(R.lp e' (t+1)).1,(R.lp e' (t+1)).2)else(R.wl U e' (R.I t),(R.lp e' t).1,(R.lp e' t).2)) he fun z _ hne=>by
  by_cases h:z<e
  ·rw[if_pos h,if_pos (by omega)]
  rw[if_neg h,if_neg (by omega)]
 rw[if_pos (by omega)]at h
 exact h
theorem EE (he:e<R.E):(R.own2 U t e).set e (R.wl U e (R.I (t+1)),(R.lp e (t+1)).1,(R.lp e (t+1)).2)=R.own2 U t (e+1):=by
 have h:=Am (f:=fun e'=>if e'<e then(R.wl U e' (R.I (t+1)),(R.lp e' (t+1)).1,(R.lp e' (t+1)).2)else(R.wl U e' (R.I t++[t]),(R.lp e' (t+1)).1,(R.lp e' (t+1)).2)) (g:=fun e'=>if e'<e+1 then(R.wl U e' (R.I (t+1)),(R.lp e' (t+1)).1,(R.lp e' (t+1)).2)else(R.wl U e' (R.I t++[t]),(R.lp e' (t+1)).1,(R.lp e' (t+1)).2)) he fun z _ hne=>by
  by_cases h:z<e
  ·rw[if_pos h,if_pos (by omega)]
  rw[if_neg h,if_neg (by omega)]
 rw[if_pos (by omega)]at h
 exact h
theorem Ze:R.wl U e (R.I t++[t])=R.wl U e (R.I t)++if 0<R.left U t e then [((t:Int),R.left U t e)]else []:=by
 rw[LZ]
 congr 1
 by_cases h:0<R.left U t e
 ·rw[kQ h,if_pos h]
  rfl
 rw[nC h,if_neg h]
 rfl
theorem MA (he:e<R.E) (h0:∀e,R.left U t e=R.los t e) (hv:R.isV t e=false):R.own1 U t (e+1)=R.own1 U t e:=by
 rw[←Nb he]
 have h1:R.wl U e (R.I t++[t])=R.wl U e (R.I t):=by rw[Ze,h0,Ej hv,if_neg (by grind),List.append_nil]
 have h2:R.lp e (t+1)=R.lp e t:=by
  show(bif R.isV t e then _ else _)=_
  rw[hv]
  rfl
 rw[h1,h2,←Na he]
 apply List.ext_getElem?
 intro i
 rw[List.getElem?_set]
 split
 ·rename_i hi
  subst hi
  rw[if_pos (by rw[iW];exact he),Jy (by rw[iW];exact he)]
 rfl
theorem QM (hv:R.isV t e=true):R.lp e (t+1)=((t:Int),true):=by
 show(bif R.isV t e then _ else _)=_
 rw[hv]
 rfl
theorem EF:R.exk U t 0 false=R.ex U t:=by
 funext y e
 exact if_neg (by simp)
theorem Nc:R.exk U t e true=R.exk U t (e+1) false:=by
 funext y e'
 unfold Rg.exk
 by_cases h:e'<e∨e'=e
 ·rw[if_pos (by simpa using h),if_pos (.inl (by omega))]
 rw[if_neg (by simpa using h),if_neg (by simp;omega)]
theorem MB (he:e<R.E):R.exk U t R.E false y e=R.ex U (t+1) y e:=if_pos (.inl he)
theorem EG (hI:R.Iv N U) (ht:t<N) (he:e<R.E) (hE:R.wl U e (R.J t)=[]):R.exk U t e false=R.exk U t e true:=by
 funext y e'
 unfold Rg.exk
 by_cases h:e'<e
 ·rw[if_pos (.inl h),if_pos (.inl h)]
 by_cases h2:e'=e
 ·subst h2
  rw[if_neg (by simp),if_pos (by simp)]
  unfold Rg.ex
  by_cases h3:y+R.f<t
  ·rw[if_pos h3,if_pos (by omega)]
  rw[if_neg h3]
  by_cases h4:y+R.f<t+1
  ·rw[if_pos h4]
   have hy:y∈R.J t:=Nd.2 (by omega)
   have h5:=(hI.v y e' (by omega) he).1.1
   have h6:¬0<R.left U y e':=fun h7=>by
    have:=jV.2 ⟨y,hy,rfl,h7⟩
    rw[hE]at this
    cases this
   grind
  rw[if_neg h4]
 rw[if_neg (by simp;omega),if_neg (by simp;omega)]
theorem Te:(R.wl U e (R.J t)).length≤1:=by
 have h1:∀x∈R.wl U e (R.J t),x.1=(t:Int)-(R.f:Int):=fun x hx=>by
  obtain⟨i,hi,rfl,_⟩:=jV.1 hx
  have:=Nd.1 hi
  dsimp only
  omega
 have h2:(R.J t).Pairwise (· < ·):=by
  unfold Rg.J
  refine List.Pairwise.filter _ (List.pairwise_append.2 ⟨Wq,List.pairwise_singleton _ _,fun a ha b hb=>?_⟩)
  have:=lI.1 ha
  rw[List.mem_singleton]at hb
  omega
 have h3:=Tf (R:=R) (U:=U) (e:=e) h2
 generalize R.wl U e (R.J t)=L at h1 h3
 match L,h1,h3 with
 | [],_,_=>exact Nat.zero_le _
 | [x],_,_=>exact bC _
 | x::y::L,h1,h3=>
  have h4:=(List.pairwise_cons.1 h3).1 y (List.mem_cons_self ..)
  have h5:=h1 x (List.mem_cons_self ..)
  have h6:=h1 y (List.mem_cons_of_mem _ (List.mem_cons_self ..))
  omega
end
def aM (f:Nat) (ys:List Yr):Rg:=⟨f,(aG ys 0).m.length,fun y e=>nM (aG ys y).m e,fun y e=>(cM (aG ys y).b e).q,fun y=>(aG ys y).l.q⟩
section
variable {y:Yr}{ys:List Yr}{E f t N:Nat}
theorem Nf {l:List Bool}(h:l.length=E):(List.range E).map (nM l)=l:=by
 apply List.ext_getElem?
 intro i
 rw[List.getElem?_map]
 by_cases hi:i<E
 ·rw[List.getElem?_range hi]
  simp[nM,show i<l.length by omega]
 rw[List.getElem?_eq_none (by simp;omega),List.getElem?_eq_none (by omega)]
 rfl
theorem Zf {l:List Fr4}(h:l.length=E) (hq:∀a∈l,a=Fr4.of a.q):((List.range E).map fun e=>(cM l e).q).map Fr4.of=l:=by
 apply List.ext_getElem?
 intro i
 rw[List.getElem?_map,List.getElem?_map]
 by_cases hi:i<E
 ·rw[List.getElem?_range hi]
  have h1:i<l.length:=by omega
  have h2:cM l i=l[i]:=by simp[cM,h1]
  rw[gG h1]
  show some (Fr4.of (cM l i).q)=some l[i]
  rw[h2,←hq l[i] (List.getElem_mem h1)]
 rw[List.getElem?_eq_none (by simp;omega),List.getElem?_eq_none (by omega)]
 rfl
theorem QN (hm:y.m.length=E) (hb:y.b.length=E) (hq:∀a∈y.b,a=Fr4.of a.q) (hl:y.l=Fr4.of y.l.q):yrt y=[gH ((List.range E).map (nM y.m)),sQ false (((List.range E).map fun e=>(cM y.b e).q).map Fr4.of)]++(Fr4.of y.l.q).tr false:=by
 rw[Nf hm,Zf hb hq,←hl]
 rfl
theorem Zh {a:Fr4}(h:a=Fr4.of a.q) (h3:a.len 3):Sz 4 a.q:=by
 unfold Fr4.len at h3
 rw[h]at h3
 exact⟨Nat.le_trans h3.1 (by omega),Nat.le_trans h3.2 (by omega)⟩
theorem MC (hn:ys.length≤10) (h6:∀y∈ys,y.m.length≤6) (hE:∀y∈ys,y.b.length=(aG ys 0).m.length) (hf:f≤40) (hb:∀y∈ys,∀a∈y.b,a=Fr4.of a.q∧a.len 3) (hl:∀y∈ys,(y.l=Fr4.of y.l.q∧y.l.len 3)∧0≤y.l.q):(aM f ys).Ok ys.length:=by
 refine⟨fun t e ht he=>?_,fun t ht=>?_,fun t ht=>(hl _ (fP ht)).2,hn,?_,hf⟩
 ·have h1:=hE _ (fP ht)
  have h2:e<(aG ys t).b.length:=by rw[h1];exact he
  have h3:=hb _ (fP ht) (cM (aG ys t).b e) (nO h2)
  exact Zh h3.1 h3.2
 ·have h1:=hl _ (fP ht)
  exact Zh h1.1.1 h1.1.2
 cases ys with
 | nil=>exact Nat.zero_le _
 | cons y ys=>exact h6 y (List.mem_cons_self ..)
end
def Rg.cl (R:Rg) (U:List Ur) (n y e:Nat):Rat:=if n≤y+R.f then R.left U y e else 0
def Rg.clk (R:Rg) (U:List Ur) (n q k y e:Nat):Rat:=if e<q∨(e=q∧(((R.wl U q (R.I n)).take k).any fun x=>decide (x.1=(y:Int)))=true)then R.cl U n y e else 0
def Rg.vnE (R:Rg) (n:Nat):List Vn:=R.vns (R.run n) (R.ex (R.run n) n) (R.cl (R.run n) n) (R.vl n)
section
variable {R:Rg}{U:List Ur}{N n q k y e j:Nat}
theorem EH:R.clk U n 0 0=fun _ _=>0:=by
 funext y e
 unfold Rg.clk
 rw[if_neg (by simp)]
theorem EI:R.clk U n (q+1) 0 y e=if e≤q then R.cl U n y e else 0:=by
 unfold Rg.clk
 by_cases h:e≤q
 ·rw[if_pos h,if_pos (.inl (by omega))]
 rw[if_neg h,if_neg (by simp;omega)]
theorem EJ (hI:R.Iv n U) (hk:(R.wl U q (R.I n)).length≤k) (hq:q<R.E) (hy:y<n):R.clk U n q k y e=R.clk U n (q+1) 0 y e:=by
 rw[EI]
 unfold Rg.clk
 rw[fF hk]
 by_cases h:e<q
 ·rw[if_pos (.inl h),if_pos (by omega)]
 by_cases h2:e=q
 ·subst h2
  rw[if_pos (bC e)]
  split
  ·rfl
  rename_i h3
  have h4:¬((R.wl U e (R.I n)).any fun x=>decide (x.1=(y:Int)))=true:=fun h5=>h3 (.inr ⟨rfl,h5⟩)
  unfold Rg.cl
  split
  ·rename_i h5
   have h6:=(hI.v y e hy hq).1.1
   by_cases h7:0<R.left U y e
   ·exact absurd (List.any_eq_true.2 ⟨((y:Int),R.left U y e),jV.2 ⟨y,lI.2 ⟨hy,h5⟩,rfl,h7⟩,by simp⟩) h4
   grind
  rfl
 rw[if_neg (by simp;omega),if_neg (by omega)]
theorem EK (he:e<R.E):R.clk U n R.E 0 y e=R.cl U n y e:=if_pos (.inl he)
theorem VW (hk:k<(R.wl U q (R.I n)).length):∃j:Nat,aH (R.wl U q (R.I n)) k=((j:Int),R.left U j q)∧0<R.left U j q∧j<n∧n≤j+R.f:=by
 obtain⟨i,hi,hx,h0⟩:=jV.1 (nP hk)
 have:=lI.1 hi
 exact⟨i,hx,h0,this.1,this.2⟩
theorem MD (hk:k<(R.wl U q (R.I n)).length) (hx:aH (R.wl U q (R.I n)) k=((j:Int),R.left U j q)) (hj:n≤j+R.f):R.clk U n q (k+1) j q=R.left U j q:=by
 unfold Rg.clk Rg.cl
 rw[lY hk,hx,if_pos (.inr ⟨rfl,by simp⟩),if_pos hj]
theorem EL (hk:k<(R.wl U q (R.I n)).length) (hx:aH (R.wl U q (R.I n)) k=((j:Int),R.left U j q)) (hne:¬(y=j∧e=q)):R.clk U n q k y e=R.clk U n q (k+1) y e:=by
 unfold Rg.clk
 rw[lY hk,hx,List.any_append]
 by_cases h:e=q
 ·have h2:¬(j:Int)=(y:Int):=by omega
  have h3:List.any [((j:Int),R.left U j q)] (fun x=>decide (x.1=(y:Int)))=false:=by
   rw[List.any_cons,List.any_nil,Bool.or_false]
   exact decide_eq_false h2
  rw[h3,Bool.or_false]
 simp[h]
theorem Ng {x c x' c':Nat→Nat→Rat}{L:List (Nat×Nat)}(h:∀p∈L,x p.1 p.2=x' p.1 p.2∧c p.1 p.2=c' p.1 p.2):R.vns U x c L=R.vns U x' c' L:=List.map_congr_left fun p hp=>by
 unfold Rg.vn
 rw[(h p hp).1,(h p hp).2]
end
def fY (a:Fr4):Bool:=decide (a.x.length≤3)&&decide (a.y.length≤3)
def mT (y:Yr):Bool:=decide (y.m.length≤6)&&(decide (y.b.length≤6)&&(fY y.l&&y.b.all fY))
def iM (ys:List Yr):Bool:= !(decide (10<ys.length)&&decide (ys.length≤40)|| decide (60<ys.length))&&ys.all mT
theorem Ek {a:Fr4}(h:fY a=true):a.len 3:=by
 unfold fY at h
 simp only[Bool.and_eq_true,decide_eq_true_eq]at h
 exact h
theorem Nh {α:Type}{l:List α}{d:α}{p:α→Bool}(h:∀j,j<l.length→p (l.getD j d)=true):l.all p=true:=by
 rw[List.all_eq_true]
 intro x hx
 obtain⟨j,hj,rfl⟩:=List.getElem_of_mem hx
 have:=h j hj
 rwa[List.getD_eq_getElem?_getD,gG hj]at this
theorem Tg {y:Yr}{k:Nat}(hk:k<y.b.length) (h:fY (cM y.b k)=false):mT y=false:=by
 have h1:y.b.all fY=false:=by
  rw[List.all_eq_false]
  exact⟨cM y.b k,nO hk,by simp[h]⟩
 unfold mT
 rw[h1]
 simp
theorem Ni {y:Yr}{k:Nat}(hm:y.m.length≤6) (hb:y.b.length≤6) (hl:fY y.l=true) (hk:y.b.length≤k) (h:∀j,j<k→fY (cM y.b j)=true):mT y=true:=by
 unfold mT
 rw[decide_eq_true hm,decide_eq_true hb,hl,Nh (d:=nilF) fun j hj=>h j (by omega)]
 rfl
theorem oE {ys:List Yr}{k:Nat}(hk:k<ys.length) (h:mT (aG ys k)=false):iM ys=false:=by
 have h1:ys.all mT=false:=by
  rw[List.all_eq_false]
  exact⟨aG ys k,fP hk,by simp[h]⟩
 unfold iM
 rw[h1]
 simp
theorem EM {ys:List Yr}{k:Nat}(hk:ys.length≤k) (h:∀j,j<k→mT (aG ys j)=true):iM ys= !(decide (10<ys.length)&&decide (ys.length≤40)|| decide (60<ys.length)):=by
 unfold iM
 rw[Nh (d:=JL) fun j hj=>h j (by omega),Bool.and_true]
theorem Dd {ys:List Yr}{k:Nat}(hk:ys.length≤k) (h:∀j,j<k→mT (aG ys j)=true) (hl:ys.length≤10∨40<ys.length∧ys.length≤60):iM ys=true:=by
 rw[EM hk h]
 simp only[Bool.not_eq_true',Bool.or_eq_false_iff,Bool.and_eq_false_iff,decide_eq_false_iff_not]
 omega
theorem De {ys:List Yr}(h:(10<ys.length∧ys.length≤40)∨60<ys.length):iM ys=false:=by
 unfold iM
 have:(decide (10<ys.length)&&decide (ys.length≤40)|| decide (60<ys.length))=true:=by
  simp only[Bool.or_eq_true,Bool.and_eq_true,decide_eq_true_eq]
  omega
 rw[this]
 rfl
theorem pR {y:Yr}(h:6<y.m.length∨6<y.b.length∨fY y.l=false):mT y=false:=by
 unfold mT
 rcases h with h | h | h
 ·rw[decide_eq_false (show¬y.m.length≤6 by omega)];rfl
 ·rw[decide_eq_false (show¬y.b.length≤6 by omega),Bool.false_and,Bool.and_false]
 rw[h,Bool.false_and,Bool.and_false,Bool.and_false]
theorem sN {ys:List Yr}(h:iM ys=true):(ys.length≤10∨40<ys.length∧ys.length≤60)∧∀y∈ys,y.m.length≤6∧y.b.length≤6∧y.l.len 3∧∀a∈y.b,a.len 3:=by
 unfold iM at h
 simp only[Bool.and_eq_true,Bool.not_eq_true',Bool.or_eq_false_iff,Bool.and_eq_false_iff,decide_eq_false_iff_not,List.all_eq_true]at h
 refine⟨by omega,fun y hy=>?_⟩
 have h2:=h.2 y hy
 unfold mT at h2
 simp only[Bool.and_eq_true,decide_eq_true_eq,List.all_eq_true]at h2
 exact⟨h2.1,h2.2.1,Ek h2.2.2.1,fun a ha=>Ek (h2.2.2.2 a ha)⟩
structure Agr (R R':Rg) (k:Nat):Prop where
 f:R.f=R'.f
 e:R.E=R'.E
 m:∀y,y<k→R.mem y=R'.mem y
 b:∀y,y<k→R.base y=R'.base y
 l:∀y,y<k→R.lim y=R'.lim y
section
variable {R R':Rg}{U W:List Ur}{k n t y e i:Nat}{p:Ur→Bool}
theorem Agr.isV (h:Agr R R' k) (hy:y<k):R.isV y=R'.isV y:=by
 funext e
 unfold Rg.isV
 rw[h.m y hy,h.b y hy]
theorem Agr.vl (h:Agr R R' k):∀{t:Nat},t≤k→R.vl t=R'.vl t
 | 0,_=>rfl
 | t+1,ht=>by
  unfold Rg.vl
  rw[Agr.vl h (t:=t) (by omega),h.isV (by omega),h.e]
theorem Agr.use (h:Agr R R' k) (hy:y<k) (ht:t<k):R.use U y e t=R'.use U y e t:=by
 unfold Rg.use Rg.left Rg.los Rg.room
 rw[h.isV hy,h.b y hy,h.b t ht,h.l t ht]
theorem Agr.fold (h:Agr R R' k) (ht:t<k):∀(L:List (Nat×Nat)) (U:List Ur),(∀p∈L,p.1<k)→L.foldl (fun U p=>R.use U p.1 p.2 t) U=L.foldl (fun U p=>R'.use U p.1 p.2 t) U
 | [],_,_=>rfl
 | p::L,U,hL=>by
  rw[List.foldl_cons,List.foldl_cons,h.use (hL p (List.mem_cons_self ..)) ht]
  exact Agr.fold h ht L _ fun q hq=>hL q (List.mem_cons_of_mem _ hq)
theorem Agr.step (h:Agr R R' k) (ht:t<k):R.step U t=R'.step U t:=by
 unfold Rg.step
 rw[show(R.vl t).filter (R.may t)=(R'.vl t).filter (R'.may t) from by
  rw[h.vl (Nat.le_of_lt ht)]
  congr 1
  funext p
  unfold Rg.may
  rw[h.f,h.m t ht]]
 exact h.fold ht _ _ fun p hp=>by
  have:=(fK.1 (List.mem_filter.1 hp).1).1
  omega
theorem Agr.run (h:Agr R R' k):∀{t:Nat},t≤k→R.run t=R'.run t
 | 0,_=>rfl
 | t+1,ht=>by
  unfold Rg.run
  rw[Agr.run h (t:=t) (by omega),h.step (by omega)]
theorem yU:∀(a b:List Rat),fD (a++b)=fD a+fD b
 | [],b=>by rw[List.nil_append];show _=0+_;grind
 | x::a,b=>by rw[List.cons_append,iO,yU a b,iO,Rat.add_assoc]
theorem Ao:iY (U++W) p=iY U p+iY W p:=by
 unfold iY
 rw[List.filter_append,List.map_append,yU]
theorem Df:∀(L:List (Nat×Nat)) (U:List Ur),∃W,L.foldl (fun U p=>R.use U p.1 p.2 t) U=U++W∧∀u∈W,u.y=(t:Int)∧0<u.n
 | [],U=>⟨[],(List.append_nil U).symm,fun _ h=>(by cases h)⟩
 | p::L,U=>by
  rw[List.foldl_cons]
  obtain⟨W,h1,h2⟩:=Df L (R.use U p.1 p.2 t)
  rw[h1]
  unfold Rg.use Rg.us
  split
  ·rename_i h
   refine⟨⟨p.1,p.2,t,_⟩::W,by rw[List.append_assoc];rfl,fun u hu=>?_⟩
   rcases List.mem_cons.1 hu with rfl | hu
   ·exact⟨rfl,h⟩
   exact h2 u hu
  exact⟨W,rfl,h2⟩
theorem sC (hk:k≤n):∃W,R.run n=R.run k++W∧∀u∈W,(k:Int)≤u.y:=by
 induction n with
 | zero=>exact⟨[],by rw[show k=0 by omega,List.append_nil],fun _ h=>(by cases h)⟩
 | succ n ih=>
  by_cases h:k=n+1
  ·exact⟨[],by rw[h,List.append_nil],fun _ h=>(by cases h)⟩
  obtain⟨W,h1,h2⟩:=ih (by omega)
  obtain⟨V,h3,h4⟩:=Df (R:=R) (t:=n) ((R.vl n).filter (R.may n)) (R.run n)
  refine⟨W++V,?_,fun u hu=>?_⟩
  ·show R.step (R.run n) n=_
   unfold Rg.step
   rw[h3,h1,List.append_assoc]
  rcases List.mem_append.1 hu with hu | hu
  ·exact h2 u hu
  have:=(h4 u hu).1
  omega
theorem Th:∀{n:Nat}{u:Ur},u∈R.run n→0<u.n
 | 0,_,h=>by cases h
 | n+1,u,h=>by
  obtain⟨V,h3,h4⟩:=Df (R:=R) (t:=n) ((R.vl n).filter (R.may n)) (R.run n)
  have h5:R.run (n+1)=R.run n++V:=h3
  rw[h5]at h
  rcases List.mem_append.1 h with h | h
  ·exact Th h
  exact(h4 u h).2
theorem Ti (hi:i<k) (hk:k≤n):dZ (R.run n) i=dZ (R.run k) i:=by
 obtain⟨W,h1,h2⟩:=sC (R:=R) hk
 have h3:iY W (fun u=>decide (u.y=(i:Int)))=0:=nN fun u hu=>by
  have:=h2 u hu
  exact decide_eq_false (by omega)
 unfold dZ
 rw[h1,Ao,h3]
 grind
theorem QO (hk:k≤n):(R.vl k).length≤(R.vl n).length:=by
 induction n with
 | zero=>rw[show k=0 by omega];exact bC _
 | succ n ih=>
  by_cases h:k=n+1
  ·rw[h];exact bC _
  have:=ih (by omega)
  show _≤(R.vl n++_).length
  rw[fE]
  omega
end
section
variable {ys:List Yr}{f k i:Nat}
theorem kY (h:i<k):aG (ys.take k) i=aG ys i:=by
 unfold aG
 rw[List.getD_eq_getElem?_getD,List.getD_eq_getElem?_getD,List.getElem?_take,if_pos h]
theorem Nj (h:0<k):Agr (aM f (ys.take k)) (aM f ys) k:=
 ⟨rfl,by show(aG _ 0).m.length=_;rw[kY h];rfl,fun y hy=>by funext e;show nM (aG _ y).m e=_;rw[kY hy];rfl,fun y hy=>by funext e;show(cM (aG _ y).b e).q=_;rw[kY hy];rfl,fun y hy=>by show(aG _ y).l.q=_;rw[kY hy];rfl⟩
theorem Nk:(aM f (ys.take k)).run k=(aM f ys).run k:=by
 by_cases h:k=0
 ·subst h;rfl
 exact(Nj (by omega)).run (bC k)
theorem ME:(aM f (ys.take k)).vl k=(aM f ys).vl k:=by
 by_cases h:k=0
 ·subst h;rfl
 exact(Nj (by omega)).vl (bC k)
end
theorem QP {T:List (Nat×TI)}{fresh:Bool}{P:Program}{f:FuncId}{fn:Func}{c:Code}{n:Nat}{rv:List ResultVar}{lent given:List Lt}{args:List FV}{R:List Lt→FV→Prop}(hf:P.funcs[f]? =some fn) (hb:fn.body=some c) (hn:fn.ntmps=n) (hrv:fn.results.toList=rv) (hT:cN P T) (hle:Nat.ble args.length n=true)
  (h:∀N M w c0,c0.length=lent.length→WP ⟨P,N,M,w,n,c0⟩ c (bP (lZ 0 args)) (cB (lent++given)) (yV ⟨P,N,M,w,n,c0⟩ (rH ⟨P,N,M,w,n,c0⟩ T rv fresh lent R))):nI fresh P f lent given args R:=by
 subst hn hrv
 refine Dg hf hb T hT hle lent.length (bC _) (by rw[fE];omega) ?_
 rintro⟨P',N,M,w,n,c0⟩ rfl rfl h0 _
 exact(h N M w c0 h0).subQ
theorem Nl {K:List Nat}:∀{a a' b b':List AV},renL K a=some a'→renL K b=some b'→renL K (a++b)=some (a'++b')
 | [],a',b,b',h,h'=>by
  simp only[renL]at h
  injection h with h
  subst h
  exact h'
 | x::a,a',b,b',h,h'=>by
  simp only[List.cons_append,renL]at h⊢
  cases hx:gR K x with
  | none=>rw[hx]at h;simp at h
  | some x'=>
   cases ha:renL K a with
   | none=>rw[hx,ha]at h;simp at h
   | some a2=>
    rw[hx,ha]at h
    rw[Nl ha h']
    simp at h⊢
    rw[←h]
    rfl
theorem Jz {n:Nat}:∀{a b:List AV},refCs n a=true→refCs n b=true→refCs n (a++b)=true
 | [],b,_,h'=>h'
 | x::a,b,h,h'=>by
  simp only[List.cons_append,refCs,Bool.and_eq_true]at h⊢
  exact⟨h.1,Jz h.2 h'⟩
theorem QQ {K0:List Nat}{o:Option Ob}{t z:Nat}{trs:List Tr}{l l':List AV}(h:o=some ⟨t,z,trs.map .t++l'⟩) (hl:renL K0 l=some l'):Cg K0 o ⟨t,z,trs.map .t++l⟩:=⟨_,Nl (Lw trs) hl,h⟩
section
variable {x:Cx}{g g':Nat→FV}{ob ob':List (Option Ob)}{Q:Post}{ops:Array Oper}{rest:List Oper}{d:Nat}{op:Op}{ty:TypeId}{pos:String}{af:Array Edge}{gd:Option (Nat×Bool)}
theorem ock {late:Nat→Bool}{K fr:List Nat}{fuel:Nat}{listed:Array Bool}{fresh:Bool}{f:FuncId}{args:List FV}{r v:FV}{os:List Ob}{aa:Array Operand}{ats:Array TypeId}(key i:Nat) (hi:ops[i]? =some ⟨some d,.call ⟨.value (.func f),aa,ats⟩,ty,pos,af,gd⟩) (hS:aE fresh x.P f [] args (aT r)) (hf:CallOk x.P f) (ha:AL fresh x g ob aa.toList args) (k:WD x ops Q late K (d::fr) true fuel (listed.setIfInBounds i true) (bH g d v) (ob++os.map some)) (hw:bI ops x.n g gd=some true:=by rfl) (hk:eN ob key=true:=by rfl) (hb:kB key r=some (v,os):=by rfl) (hK:JM K ob=true:=by rfl):WO x ops Q late K fr true fuel listed i g ob:=
 Gy (v:=v) i hi rfl hw (Dh hS hf ha hk (by rintro _ rfl;rw[hb];rfl)) (by
  rintro _ _ ⟨r',v',os',rfl,h,rfl,rfl⟩
  rw[hb]at h
  injection h with h
  injection h with h1 h2
  subst h1 h2
  exact⟨rfl,fun k hk'=>Tj (o:=none) hK k hk'⟩) (by
  rintro _ _ ⟨r',v',os',rfl,h,rfl,rfl⟩
  rw[hb]at h
  injection h with h
  injection h with h1 h2
  subst h1 h2
  exact k)
theorem Zj {fresh:Bool}{f:FuncId}{args:List FV}{R:List Lt→FV→Prop}{lent given:List Lt}{K K1 K2:List Nat}{aa:Array Operand}{ats:Array TypeId}{cf:Operand}{key:Nat}{c1 c2:AV}(s1 s2:Nat) (hS:nI fresh x.P f lent given args R) (hKK:K=K1++K2) (hl1:lent.length=K1.length) (hf:CallOk x.P f) (hc:lk x.n g cf=.one (.fn f [] [c1,c2])) (h1:g s1=.any) (h2:g s2=.any) (hs1:Nat.blt s1 x.n=true) (hs2:Nat.blt s2 x.n=true) (hne:Nat.beq s1 s2=false) (hop:∀o∈aa.toList,o≠.tmp s1∧o≠.tmp s2)
  (hK:eQ ob K K (lent++given)) (hnd:K.Nodup) (ha:kM x.n (bH (bH g s1 (.one c1)) s2 (.one c2)) K (aa.toList++[.tmp s1,.tmp s2]) args) (hk:eN ob key=true) (hb:∀l r,R l r→l.length=K1.length→(kB key r).isSome=true∧∃ok,eH K1 l ok):
  OS x ⟨some d,.call ⟨.value cf,aa,ats⟩,ty,pos,af,gd⟩ g ob K (fun g' ob'=>∃l r v os ok,R l r∧l.length=K1.length∧kB key r=some (v,os)∧eH K1 l ok∧g'=bH g d v∧ob'=cE ob K (ok++cC K2)++os.map some):=by
 intro cs ts W hR K' Q kk
 have hs1:s1<x.n:=by simpa[Nat.blt,Nat.lt_iff_add_one_le]using hs1
 have hs2:s2<x.n:=by simpa[Nat.blt,Nat.lt_iff_add_one_le]using hs2
 have hne9:s1≠s2:=fun e=>by subst e;simp at hne
 have hcv:=hR.lk cf
 rw[hc]at hcv
 simp only[bO,cD,AR]at hcv
 obtain⟨us,vs,e0,hu,hv⟩:=hcv
 simp only[ARL]at hu
 subst hu
 obtain⟨v1,v2,rfl,hv1,hv2⟩:∃v1 v2,vs=[v1,v2]∧AR W (x.fr W ob cs) cs c1 v1∧AR W (x.fr W ob cs) cs c2 v2:=by
  match vs,hv with
  | [v1,v2],h=>simp only[ARL]at h;exact⟨v1,v2,rfl,h.1,h.2.1⟩
  | [],h=>simp only[ARL]at h
  | [v1],h=>simp only[ARL]at h;exact h.2.elim
  | v1::v2::v3::vs,h=>simp only[ARL]at h;exact absurd h.2.2 (by simp)
 have hsz:=hR.1
 have hR':=(hR.put s1 (v:=.one c1) (u:=v1) (jI hv1)).put s2 (v:=.one c2) (u:=v2) (jI hv2)
 have ev:∀o:Operand,o≠.tmp s1→o≠.tmp s2→Act.eval ⟨(ts.setIfInBounds s1 v1).setIfInBounds s2 v2,[]⟩ o=Act.eval ⟨ts,[]⟩ o:=by
  intro o h3 h4
  cases o with
  | tmp t=>
   have q1:s1≠t:=fun e=>h3 (by rw[e])
   have q2:s2≠t:=fun e=>h4 (by rw[e])
   simp[Act.eval,Array.getElem?_setIfInBounds_ne q1,Array.getElem?_setIfInBounds_ne q2]
  | _=>rfl
 have e3:(aa.toList++[Operand.tmp s1,.tmp s2]).map (Act.eval ⟨(ts.setIfInBounds s1 v1).setIfInBounds s2 v2,[]⟩)=aa.toList.map (Act.eval ⟨ts,[]⟩)++[v1,v2]:=by
  rw[List.map_append]
  congr 1
  ·exact List.map_congr_left fun o ho=>ev o (hop o ho).1 (hop o ho).2
  have q1:s1<ts.size:=by omega
  have q2:s2<ts.size:=by omega
  have a1:((ts.setIfInBounds s1 v1).setIfInBounds s2 v2)[s1]? =some v1:=by rw[Array.getElem?_setIfInBounds_ne (Ne.symm hne9),Array.getElem?_setIfInBounds_self_of_lt q1]
  have a2:((ts.setIfInBounds s1 v1).setIfInBounds s2 v2)[s2]? =some v2:=Array.getElem?_setIfInBounds_self_of_lt (by rw[Array.size_setIfInBounds];exact q2)
  simp[Act.eval,a1,a2]
 have e:dE []++args++dE []=args:=by simp[dE]
 unfold Oper.wp
 rw[kV hf e0]
 have hC:=rS (fst:=[]) (caps:=[]) (fus:=[]) (cus:=[]) (by rw[e];exact hS) hKK hl1 hK hnd ha (by simp[FRL]) (by simp[FRL]) hR'
 rw[e3]at hC
 simp only[List.nil_append,List.append_nil]at hC⊢
 refine hC.mono fun e W' hE=>?_
 obtain⟨v,lent',r,ys,cl,N2,rfl,hr,hl1,hl2,hro,hok,hndy,fin⟩:=hE
 obtain⟨hb1,ok,hbk⟩:=hb _ r hr hl1
 obtain⟨⟨v',os⟩,hbn⟩:=Option.isSome_iff_exists.1 hb1
 obtain⟨csn,e1,e2,e3,e4⟩:=yW (Lx hbn hro) hok hbn
 obtain⟨hN,hfin⟩:=fin ok hbk os csn e1 (fun b=>by rw[e2];exact bC _) e3
 have hk:=Nat.eq_of_beq_eq_true hk
 have hpl:(dS cs K (cl++K2.map (co cs))).length=key:=by rw[kH,←hR.len,hk]
 obtain⟨g1,g2⟩:=e4 _ (dS cs K (cl++K2.map (co cs))++csn) hN (by simp[hpl,e1]) (fun i _=>by
  rw[Gz (by omega),hpl,show key+i-key=i by omega])
 obtain⟨m1,m2⟩:=hfin g2
 have m3:RelC x g (cE ob K (ok++cC K2)++os.map some) (dS cs K (cl++K2.map (co cs))++csn) ts W':=by
  refine m1.re hsz fun i hi=>?_
  by_cases q1:i=s1
  ·subst q1
   exact⟨ts[i]'(by omega),Array.getElem?_eq_getElem _,by rw[h1];trivial⟩
  by_cases q2:i=s2
  ·subst q2
   exact⟨ts[i]'(by omega),Array.getElem?_eq_getElem _,by rw[h2];trivial⟩
  obtain⟨u,u1,u2⟩:=m1.fv hi
  rw[Array.getElem?_setIfInBounds_ne (Ne.symm q2),Array.getElem?_setIfInBounds_ne (Ne.symm q1)]at u1
  have b1:Nat.beq i s1=false:=by
   cases h:Nat.beq i s1
   ·rfl
   exact absurd (Nat.eq_of_beq_eq_true h) q1
  have b2:Nat.beq i s2=false:=by
   cases h:Nat.beq i s2
   ·rfl
   exact absurd (Nat.eq_of_beq_eq_true h) q2
  simp only[bH,b1,b2,cond_false]at u2
  exact⟨u,u1,u2⟩
 have m4:=m2 (some d)
 refine kk _ _ _ _ _ ⟨lent',r,v',os,ok,hr,hl1,hbn,hbk,rfl,rfl⟩ (m3.put d g1) ?_
 have m5:Aft K (some d) ob cs ts W (cE ob K (ok++cC K2)++os.map some) (dS cs K (cl++K2.map (co cs))++csn) ts W':=⟨m4.1,m4.2,m4.3,m4.4,m4.5,fun _ _=>rfl⟩
 exact m5.then_put v
theorem VX {late:Nat→Bool}{K fr:List Nat}{fuel:Nat}{listed:Array Bool}{fresh:Bool}{f:FuncId}{lent lent' given:List Lt}{args:List FV}{r v:FV}{os:List Ob}{cf:Operand}{aa:Array Operand}{ats:Array TypeId}{c1 c2:AV}(i key s1 s2:Nat) (Kl K1 K2:List Nat) (hi:ops[i]? =some ⟨some d,.call ⟨.value cf,aa,ats⟩,ty,pos,af,gd⟩) (hS:nI fresh x.P f lent given args (Rt lent' r)) (hf:CallOk x.P f) (hc:lk x.n g cf=.one (.fn f [] [c1,c2])) (h1:g s1=.any) (h2:g s2=.any) (hK:eQ ob Kl Kl (lent++given)) (ha:kM x.n (bH (bH g s1 (.one c1)) s2 (.one c2)) Kl (aa.toList++[.tmp s1,.tmp s2]) args){ok:List (Option Ob)}(hbk:eH K1 lent' ok) (hke:jA ob (cE ob Kl (ok++cC K2)++os.map some) K) (k:WD x ops Q late K (d::fr) true fuel (listed.setIfInBounds i true) (bH g d v) (cE ob Kl (ok++cC K2)++os.map some)) (hl1:lent.length=K1.length:=by rfl) (hKK:Kl=K1++K2:=by rfl) (hr:Region.ready .any ops listed=[i]:=by kernel_rfl) (hw:bI ops x.n g gd=some true:=by rfl) (hk:eN ob key=true:=by rfl) (hnd:Kl.Nodup:=by decide) (hdis:∀k∈K,k∉Kl:=by decide) (hb:kB key r=some (v,os):=by rfl) (hs1:Nat.blt s1 x.n=true:=by rfl) (hs2:Nat.blt s2 x.n=true:=by rfl) (hne:Nat.beq s1 s2=false:=by rfl) (hop:∀o∈aa.toList,o≠.tmp s1∧o≠.tmp s2:=by simp):
  WD x ops Q late K fr true (fuel+1) listed g ob:=by
 refine WO.one hr (El i hi rfl hw (Zj s1 s2 hS hKK hl1 hf hc h1 h2 hs1 hs2 hne hop hK hnd ha hk (by rintro _ _ ⟨rfl,rfl⟩ _;exact⟨by rw[hb];rfl,ok,hbk⟩)) hdis ?_ ?_)
 ·rintro _ _ ⟨l,r',v',os',ok',⟨rfl,rfl⟩,_,h,h9,rfl,rfl⟩
  obtain rfl:=kW hbk h9
  rw[hb]at h
  injection h with h
  injection h with h1 h2
  subst h1 h2
  exact⟨⟨_,rfl⟩,gN hke⟩
 rintro _ _ ⟨l,r',v',os',ok',⟨rfl,rfl⟩,_,h,h9,rfl,rfl⟩
 obtain rfl:=kW hbk h9
 rw[hb]at h
 injection h with h
 injection h with h1 h2
 subst h1 h2
 exact k
end
theorem uZ (us:List Ur) (o:Bool):((us.flatMap (dK o)).map AV.t).length=us.length*7:=by rw[dB,bE (dA o)]
theorem Em {A B:List AV}{n i:Nat}(h:A.length=n):(A++B)[n+i]? =B[i]? :=by rw[List.getElem?_append_right (by omega),h,show n+i-n=i by omega]
theorem En {A B:List AV}{n i:Nat}{a:AV}(h:A.length=n):(A++B).set (n+i) a=A++B.set i a:=by rw[List.set_append_right _ _ (by omega),h,show n+i-n=i by omega]
theorem EN (us:List Ur) (u:Ur):(us.flatMap (dK true)).map AV.t++(dK true u).map .t=((us++[u]).flatMap (dK true)).map .t:=by simp[List.flatMap_append]
theorem EO (xs:List Vn) (x:Vn):(xs.flatMap (cA true)).map AV.t++(cA true x).map .t=((xs++[x]).flatMap (cA true)).map .t:=by simp[List.flatMap_append]
theorem Ap (xs:List Vn) (o:Bool):((xs.flatMap (cA o)).map AV.t).length=xs.length*18:=by rw[dB,bE (cK o)]
theorem tR:∀a b:List Tr,rdTL (a++b)=rdTL a++rdTL b:=by
 intro a b
 induction a with
 | nil=>rfl
 | cons x a ih=>simp only[List.cons_append,rdTL,ih]
theorem rT {α:Type}{f g:α→List Tr}(h:∀x,rdTL (f x)=g x) (xs:List α):rdTL (xs.flatMap f)=xs.flatMap g:=by
 induction xs with
 | nil=>rfl
 | cons x xs ih=>rw[List.flatMap_cons,tR,ih,h,List.flatMap_cons]
theorem Tk (l:List Nat):rdTL (aJ l)=aJ l:=by
 induction l with
 | nil=>rfl
 | cons x l ih=>simp only[aJ,List.map_cons,rdTL,oF]at ih⊢;rw[ih]
theorem vA (o:Bool) (a:Fr4):rdTL (a.tr o)=a.tr false:=by simp[Fr4.tr,sU,rdTL,oF,Tk]
theorem yX (o:Bool) (xs:List Vn):rdTL (xs.flatMap (cA o))=xs.flatMap (cA false):=rT (fun v=>by
 unfold cA
 rw[rdTL,rdTL,tR,tR,tR,vA,vA,vA,vA]
 rfl) xs
theorem Nm (o:Bool) (xs:List Ur):rdTL (xs.flatMap (dK o))=xs.flatMap (dK false):=rT (fun u=>by
 unfold dK
 rw[rdTL,rdTL,rdTL,vA]
 rfl) xs
theorem EP {B:Nat}:∀{l:List Rat},(∀q∈l,Sz B q)→Sz (2+l.length*(B+1)) (fD l):=fun{l} h=>by
 have key:∀(l:List Rat) (p:Rat) (m:Nat),Sz m p→(∀q∈l,Sz B q)→Sz (m+l.length*(B+1)) (l.foldl (· + ·) p):=by
  intro l
  induction l with
  | nil=>intro p m hp _;simpa using hp
  | cons q l ih=>
   intro p m hp hl
   have h1:=ih (p+q) (m+B+1) (vB hp (hl q (List.mem_cons_self ..))) fun z hz=>hl z (List.mem_cons_of_mem _ hz)
   rw[List.foldl_cons,List.length_cons,Nat.add_mul,Nat.one_mul]
   exact h1.mono (by omega)
 exact key l 0 2 ((vC (z:=0) (by omega) (by omega)).mono (by omega)) h
section
variable {R:Rg}{U W:List Ur}{N n k t y e:Nat}
theorem Di {Q:List Ur→Prop}(h:∀U y e,Q U→Q (R.use U y e t)):∀(L:List (Nat×Nat)) (U:List Ur),Q U→Q (L.foldl (fun U p=>R.use U p.1 p.2 t) U)
 | [],_,h0=>h0
 | p::L,U,h0=>Di h L _ (h U p.1 p.2 h0)
theorem Tl {Q:List Ur→Prop}(h0:Q []) (h:∀U y e t,Q U→Q (R.use U y e t)):∀n,Q (R.run n)
 | 0=>h0
 | n+1=>Di (fun U y e=>h U y e n) _ _ (Tl h0 h n)
theorem Aq:(R.vnE n).length=(R.vl n).length:=dQ
theorem QR {i:Nat}(hi:i<(R.vnE n).length):∃y e,(y,e)∈R.vl n∧aY (R.vnE n) i=R.vn (R.run n) (R.ex (R.run n) n) (R.cl (R.run n) n) (y,e):=by
 rw[Aq]at hi
 refine⟨(R.vl n)[i].1,(R.vl n)[i].2,List.getElem_mem hi,?_⟩
 unfold Rg.vnE Rg.vns aY
 rw[List.getD_eq_getElem?_getD,List.getElem?_map,gG hi]
 rfl
theorem Ka:fD [cU U y e,R.ex U n y e,R.cl U n y e]=R.los y e:=by
 rw[iO,iO,iO,show fD []=0 from rfl]
 unfold Rg.ex Rg.cl
 by_cases h:y+R.f<n
 ·rw[if_pos h,if_neg (by omega),Eo (R:=R)];grind
 rw[if_neg h,if_pos (by omega),Eo (R:=R)];grind
theorem QS (hI:R.Iv n U) (hy:y<n) (he:e<R.E):0≤cU U y e:=by
 have:=(hI.v y e hy he).1.2
 rw[Eo (R:=R)]
 grind
theorem VY (hI:R.Iv n U) (hy:y<n) (he:e<R.E):0≤R.ex U k y e:=by
 unfold Rg.ex
 split
 ·exact(hI.v y e hy he).1.1
 exact Rat.le_refl
theorem VZ (hI:R.Iv n U) (hy:y<n) (he:e<R.E):0≤R.cl U k y e:=by
 unfold Rg.cl
 split
 ·exact(hI.v y e hy he).1.1
 exact Rat.le_refl
theorem wS {M:Nat}(h:2≤M):Sz M (0:Rat):=(vC (z:=0) (by omega) (by omega)).mono h
theorem Ar (hO:R.Ok n) (hI:R.Iv n U) (hy:y<n) (he:e<R.E):Sz 300 (R.ex U k y e):=by
 unfold Rg.ex
 split
 ·exact hI.sz_left hO hy he
 exact wS (by omega)
theorem Ws (hO:R.Ok n) (hI:R.Iv n U) (hy:y<n) (he:e<R.E):Sz 300 (R.cl U k y e):=by
 unfold Rg.cl
 split
 ·exact hI.sz_left hO hy he
 exact wS (by omega)
theorem Nn (h:(y,e)∈R.vl n):y<n∧e<R.E∧R.mem y e=false∧R.los y e=-(R.base y e)∧0<R.los y e:=by
 obtain⟨h1,h2,h3⟩:=fK.1 h
 have h4:=sD h3
 unfold Rg.isV at h3
 simp only[Bool.and_eq_true,Bool.not_eq_true']at h3
 exact⟨h1,h2,h3.1,h4⟩
theorem vD (hO:R.Ok N):∀{n:Nat},n≤N→∀u∈R.run n,Sz 300 u.n
 | 0,_,u,h=>by cases h
 | n+1,hn,u,h=>by
  have key:∀(L:List (Nat×Nat)) (V:List Ur),R.Iv N V→(∀u∈V,Sz 300 u.n)→(∀p∈L,p.1<N∧p.2<R.E)→∀u∈L.foldl (fun U p=>R.use U p.1 p.2 n) V,Sz 300 u.n:=by
   intro L
   induction L with
   | nil=>intro V _ h _;exact h
   | cons p L ih=>
    intro V hI hV hL
    have h1:=hL p (List.mem_cons_self ..)
    refine ih _ (hI.use h1.1 h1.2 (by omega)) (fun u hu=>?_) fun q hq=>hL q (List.mem_cons_of_mem _ hq)
    dsimp only at hu
    unfold Rg.use at hu
    by_cases h0:0<aO (R.left V p.1 p.2) [R.room V p.2 n]
    ·rw[kP h0]at hu
     rcases List.mem_append.1 hu with hu | hu
     ·exact hV u hu
     rw[List.mem_singleton]at hu
     subst hu
     refine hO.sz (Rat.le_of_lt h0) ?_ ((hI.v _ _ h1.1 h1.2).2.min (No hI h1.2 (by omega)))
     exact Rat.le_trans (pS _ _) (Rat.le_trans (hI.v _ _ h1.1 h1.2).1.2 (hO.los_le h1.1 h1.2))
    rw[nJ h0]at hu
    exact hV u hu
  exact key _ _ (hO.run (by omega)) (vD hO (n:=n) (by omega)) (fun p hp=>by
   have:=fK.1 (List.mem_filter.1 hp).1
   exact⟨by omega,this.2.1⟩) u h
theorem QT {p:Ur→Bool}{B:Nat}(h:∀u∈U,Sz B u.n):Sz (2+U.length*(B+1)) (iY U p):=by
 unfold iY
 refine(EP (B:=B) fun q hq=>?_).mono ?_
 ·obtain⟨u,hu,rfl⟩:=List.mem_map.1 hq
  exact h u (List.mem_filter.1 hu).1
 rw[dB]
 have:=Nat.mul_le_mul (List.length_filter_le p U) (bC (B+1))
 omega
theorem pT {p:Ur→Bool}{B M:Nat}(h:∀u∈U,Sz B u.n) (hM:2+U.length*(B+1)≤M):Sz M (iY (U.take k) p):=by
 refine(QT (B:=B) fun u hu=>h u (List.mem_of_mem_take hu)).mono ?_
 have:=Nat.mul_le_mul (show(U.take k).length≤U.length by rw[eJ];omega) (bC (B+1))
 omega
theorem base_le {b:Rat}:b≤dY 0 [b]∧0≤dY 0 [b]:=by
 show b≤(if(0:Rat)<b then b else 0)∧0≤(if(0:Rat)<b then b else 0)
 split <;> exact⟨by grind,by grind⟩
theorem Ep:dT (R.run n) t e≤dY 0 [R.base t e]:=by
 refine Tl (Q:=fun U=>dT U t e≤dY 0 [R.base t e]) base_le.2 (fun U y' e' t' h=>?_) n
 unfold Rg.use
 by_cases h0:0<aO (R.left U y' e') [R.room U e' t']
 ·rw[kP h0,sB]
  split
  ·rename_i hq
   have e1:t'=t:=by omega
   have e2:e'=e:=by omega
   subst e1
   subst e2
   have h1:=pU (R.left U y' e') (R.room U e' t')
   have h2:=wT (R:=R) (U:=U) (e:=e') (t:=t')
   have h3:=(base_le (b:=R.base t' e')).1
   grind
  exact h
 rw[nJ h0]
 exact h
theorem Np {u:Ur}{p:Ur→Bool}:iY (u::U) p=(if p u then u.n else 0)+iY U p:=by
 unfold iY
 by_cases h:p u=true
 ·rw[List.filter_cons_of_pos h,List.map_cons,iO,if_pos h]
 rw[List.filter_cons_of_neg h,if_neg h]
 grind
theorem Zk {α:Type}(L:List α):fD (L.map fun _=>(0:Rat))=0:=by
 induction L with
 | nil=>rfl
 | cons a L ih=>rw[List.map_cons,iO,ih];grind
theorem Nq {α:Type}{f g:α→Rat}(L:List α):fD (L.map fun a=>f a+g a)=fD (L.map f)+fD (L.map g):=by
 induction L with
 | nil=>show(0:Rat)=0+0;grind
 | cons a L ih=>rw[List.map_cons,List.map_cons,List.map_cons,iO,iO,iO,ih];grind
theorem Nr {a:Rat}{e0:Nat}:∀{E:Nat},fD ((List.range E).map fun(e:Nat)=>if(e0:Int)=(e:Int)then a else 0)=if e0<E then a else 0
 | 0=>by rw[if_neg (by omega)];rfl
 | E+1=>by
  rw[List.range_succ,List.map_append,yU,Nr,List.map_cons,List.map_nil,iO,show fD []=0 from rfl]
  by_cases h1:e0<E
  ·rw[if_pos h1,if_neg (by omega),if_pos (by omega)];grind
  rw[if_neg h1]
  by_cases h2:e0=E
  ·rw[if_pos (by omega),if_pos (by omega)];grind
  rw[if_neg (by omega),if_neg (by omega)];grind
theorem QU (h:∀u∈U,∃e:Nat,u.e=(e:Int)∧e<R.E):fD ((List.range R.E).map fun(e:Nat)=>dT U t e)=dZ U t:=by
 induction U with
 | nil=>exact Zk _
 | cons u U ih=>
  have h1:=ih fun u hu=>h u (List.mem_cons_of_mem _ hu)
  obtain⟨e0,he0,hlt⟩:=h u (List.mem_cons_self ..)
  unfold dZ
  rw[Np]
  show _=_+dZ U t
  rw[←h1,show(fun(e:Nat)=>dT (u::U) t e)=fun(e:Nat)=>(if(e0:Int)=(e:Int)then(if decide (u.y=(t:Int))=true then u.n else 0)else 0)+dT U t e from by
   funext e
   unfold dT
   rw[Np,he0]
   congr 1
   by_cases h2:u.y=(t:Int) <;> by_cases h3:(e0:Int)=(e:Int) <;> simp[h2,h3],Nq,Nr,if_pos hlt]
theorem MF:∀u∈R.run n,∃e:Nat,u.e=(e:Int)∧e<R.E:=fun u hu=>by
 obtain⟨y,e,t,_,h2,_,_,_,_,h6⟩:=mO hu
 exact⟨e,h2,h6⟩
theorem Ns {i:Nat}(hi:i<n):fN (R.rls U n) i=R.rl U i:=by
 unfold Rg.rls fN
 rw[List.getD_eq_getElem?_getD,List.getElem?_map,List.getElem?_range hi]
 rfl
end
section
variable {R:Rg}{U V W:List Ur}{N n k t y e:Nat}{p:Nat×Nat}{m:Rat}
theorem As (a b:Rat):aO a [b]=a∨aO a [b]=b:=by
 rw[Er]
 split
 ·exact .inr rfl
 exact .inl rfl
theorem Zl {p q:Ur→Bool}(h:∀u∈U,p u=q u):iY U p=iY U q:=by
 unfold iY
 rw[List.filter_congr h]
theorem MG (hi:t<k) (hk:k≤n):dT (R.run n) t e=dT (R.run k) t e:=by
 obtain⟨W,h1,h2⟩:=sC (R:=R) hk
 have h3:iY W (fun u=>decide (u.y=(t:Int))&&decide (u.e=(e:Int)))=0:=nN fun u hu=>by
  have:=h2 u hu
  rw[decide_eq_false (show¬u.y=(t:Int) by omega)]
  rfl
 unfold dT
 rw[h1,Ao,h3]
 grind
theorem EQ (h:dZ U t=R.lim t):R.use U y e t=U:=nJ (by
 have h1:=pU (R.left U y e) (R.room U e t)
 have h2:=Nt (R:=R) (U:=U) (e:=e) (t:=t)
 rw[h]at h2
 grind)
theorem Kb (h:dZ U t=R.lim t):∀L:List (Nat×Nat),L.foldl (fun U p=>R.use U p.1 p.2 t) U=U
 | []=>rfl
 | p::L=>by
  rw[List.foldl_cons,EQ h]
  exact Kb h L
theorem MH (h:dT U t e=dY 0 [R.base t e]):R.use U y e t=U:=nJ (by
 have h1:=pU (R.left U y e) (R.room U e t)
 have h2:=wT (R:=R) (U:=U) (e:=e) (t:=t)
 have h3:=(base_le (b:=R.base t e)).1
 rw[h]at h2
 grind)
theorem ER (h:dT U t e=dY 0 [R.base t e]):∀L:List (Nat×Nat),dT (L.foldl (fun U p=>R.use U p.1 p.2 t) U) t e=dY 0 [R.base t e]∧∀u∈L.foldl (fun U p=>R.use U p.1 p.2 t) U,u∈U∨u.e≠(e:Int):=by
 intro L
 induction L generalizing U with
 | nil=>exact⟨h,fun u hu=>.inl hu⟩
 | cons p L ih=>
  rw[List.foldl_cons]
  by_cases hq:p.2=e
  ·rw[hq,MH h]
   exact ih h
  have h1:dT (R.use U p.1 p.2 t) t e=dT U t e:=Jx (fun h=>hq h.symm)
  obtain⟨h2,h3⟩:=ih (h1.trans h)
  refine⟨h2,fun u hu=>?_⟩
  rcases h3 u hu with h4 | h4
  ·rcases Gw h4 with h5 | ⟨_,h5,_⟩
   ·exact .inl h5
   exact .inr (by rw[h5];omega)
  exact .inr h4
theorem ES (hI:R.Iv N U) (hb:dT U t e≤dY 0 [R.base t e]) (hy:y<N) (he:e<R.E) (ht:t<N) (h:R.left (R.use U y e t) y e≠0):dT (R.use U y e t) t e=dY 0 [R.base t e]∨dZ (R.use U y e t) t=R.lim t:=by
 have h1:=(hI.v y e hy he).1
 have h2:=(hI.b t e ht he).1.1
 have h3:=(hI.y t ht).1
 have hq:dY 0 [R.base t e]=if 0<R.base t e then R.base t e else 0:=rfl
 unfold Rg.use at h⊢
 by_cases h0:0<aO (R.left U y e) [R.room U e t]
 ·rw[Ha (Rat.le_of_lt h0)]at h
  rw[Yy h0,Mx h0]
  rcases As (R.left U y e) (R.room U e t)with h5 | h5
  ·rw[h5]at h
   exact absurd (by grind) h
  rw[h5]at h0⊢
  rcases As (R.base t e-dT U t e) (R.lim t-dZ U t)with h6 | h6
  ·have h7:R.room U e t=R.base t e-dT U t e:=h6
   rw[h7]at h0⊢
   rw[hq,if_pos (by grind)]
   left
   grind
  have h7:R.room U e t=R.lim t-dZ U t:=h6
  rw[h7]
  right
  grind
 rw[nJ h0]at h⊢
 have h4:R.room U e t≤0:=by
  rcases As (R.left U y e) (R.room U e t)with h5 | h5
  ·rw[h5]at h0
   grind
  rw[h5]at h0
  grind
 rcases As (R.base t e-dT U t e) (R.lim t-dZ U t)with h6 | h6
 ·have h7:R.room U e t=R.base t e-dT U t e:=h6
  left
  rw[hq]at hb⊢
  split at hb
  ·rename_i h8
   rw[if_pos h8]
   grind
  rename_i h8
  rw[if_neg h8]
  grind
 have h7:R.room U e t=R.lim t-dZ U t:=h6
 right
 grind
theorem Zm (hO:R.Ok N) (hv:(y,e)∈R.vl N) (hyt:y<t) (ht:t<N) (hf:t≤y+R.f) (hm:R.mem t e=true) (hw:R.left (R.run (t+1)) y e≠0):(dT (R.run N) t e=dY 0 [R.base t e]∨dZ (R.run N) t=R.lim t)∧∀u∈R.run N,u.y=(t:Int)→(y:Int)<u.v→(u.e=(e:Int)∨dT (R.run N) t e≠dY 0 [R.base t e])→False:=by
 obtain⟨hy,he,hV⟩:=fK.1 hv
 have hp:(y,e)∈(R.vl t).filter (R.may t):=List.mem_filter.2 ⟨fK.2 ⟨hyt,he,hV⟩,by unfold Rg.may;rw[decide_eq_true (show t≤(y,e).1+R.f from hf)];exact hm⟩
 have hor:((R.vl t).filter (R.may t)).Pairwise plt:=List.Pairwise.filter _ (Es t)
 have hnd:((R.vl t).filter (R.may t)).Nodup:=List.Pairwise.filter _ (gV t)
 have hall:∀q∈(R.vl t).filter (R.may t),q.1<N∧q.2<R.E:=fun q hq=>by
  have:=fK.1 (List.mem_filter.1 hq).1
  exact⟨by omega,this.2.1⟩
 obtain⟨L1,L2,hL⟩:=List.append_of_mem hp
 rw[hL]at hor hnd hall
 have hS:R.run (t+1)=L2.foldl (fun U p=>R.use U p.1 p.2 t) (R.use (L1.foldl (fun U p=>R.use U p.1 p.2 t) (R.run t)) y e t):=by
  show R.step (R.run t) t=_
  unfold Rg.step
  rw[hL,List.foldl_append,List.foldl_cons]
 have hI0:=hO.run (k:=t) (by omega)
 have hI1:R.Iv N (L1.foldl (fun U p=>R.use U p.1 p.2 t) (R.run t)):=hI0.fold ht L1 fun q hq=>hall q (List.mem_append_left _ hq)
 have hb1:dT (L1.foldl (fun U p=>R.use U p.1 p.2 t) (R.run t)) t e≤dY 0 [R.base t e]:=by
  refine Di (Q:=fun U=>dT U t e≤dY 0 [R.base t e]) (fun U y' e' h=>?_) L1 _ Ep
  by_cases h0:0<aO (R.left U y' e') [R.room U e' t]
  ·unfold Rg.use
   rw[kP h0,sB]
   split
   ·rename_i hq
    have e2:e'=e:=by omega
    subst e2
    have h1:=pU (R.left U y' e') (R.room U e' t)
    have h2:=wT (R:=R) (U:=U) (e:=e') (t:=t)
    have h3:=(base_le (b:=R.base t e')).1
    grind
   exact h
  unfold Rg.use
  rw[nJ h0]
  exact h
 have hnot:(y,e)∉L2:=by
  have h1:=(List.nodup_append.1 hnd).2.1
  exact(List.nodup_cons.1 h1).1
 have hw2:R.left (R.use (L1.foldl (fun U p=>R.use U p.1 p.2 t) (R.run t)) y e t) y e≠0:=by
  rw[hS,rR (p:=(y,e)) L2 _ hnot]at hw
  exact hw
 have hfull:=ES hI1 hb1 hy he ht hw2
 generalize hU2:R.use (L1.foldl (fun U p=>R.use U p.1 p.2 t) (R.run t)) y e t=U2 at hS hfull
 rw[MG (show t<t+1 by omega) (show t+1≤N by omega),Ti (show t<t+1 by omega) (show t+1≤N by omega)]
 have hU:∀u∈U2,u.y=(t:Int)→¬(y:Int)<u.v:=by
  intro u hu hut hlt
  rw[←hU2]at hu
  rcases Gw hu with hu | ⟨h1,_,_⟩
  ·rcases Da L1 _ hu with hu | ⟨q,hq,h1,_,_⟩
   ·obtain⟨_,_,t',_,_,h3,_,h5,_⟩:=mO hu
    omega
   have h2:=(List.pairwise_append.1 hor).2.2 q hq (y,e) (List.mem_cons_self ..)
   unfold plt at h2
   dsimp only at h2
   omega
  omega
 have hmem:∀u∈R.run N,u.y=(t:Int)→u∈R.run (t+1):=by
  intro u hu hut
  obtain⟨W,h1,h2⟩:=sC (R:=R) (show t+1≤N by omega)
  rw[h1]at hu
  rcases List.mem_append.1 hu with hu | hu
  ·exact hu
  have:=h2 u hu
  omega
 rcases hfull with h | h
 ·obtain⟨h1,h2⟩:=ER h L2
  rw[←hS]at h1 h2
  refine⟨.inl h1,fun u hu hut hlt hor2=>?_⟩
  rcases hor2 with h3 | h3
  ·rcases h2 u (hmem u hu hut)with h4 | h4
   ·exact hU u h4 hut hlt
   exact h4 h3
  exact h3 h1
 have h1:=Kb h L2
 rw[←hS]at h1
 refine⟨.inr (by rw[h1];exact h),fun u hu hut hlt _=>?_⟩
 have h2:=hmem u hu hut
 rw[h1]at h2
 exact hU u h2 hut hlt
def iE (U:List Ur) (l:Rat) (y e t:Int):Rat:=l-iY U fun u=>decide (u.v=y)&&(decide (u.e=e)&&decide (u.y≤t))
theorem ET (ht:t<N):iE (R.run N) (R.los y e) y e t=R.left (R.run (t+1)) y e:=by
 obtain⟨W,h1,h2⟩:=sC (R:=R) (show t+1≤N by omega)
 have h3:iY W (fun u=>decide (u.v=(y:Int))&&(decide (u.e=(e:Int))&&decide (u.y≤(t:Int))))=0:=nN fun u hu=>by
  have:=h2 u hu
  rw[decide_eq_false (show¬u.y≤(t:Int) by omega),Bool.and_false,Bool.and_false]
 have h4:iY (R.run (t+1)) (fun u=>decide (u.v=(y:Int))&&(decide (u.e=(e:Int))&&decide (u.y≤(t:Int))))=cU (R.run (t+1)) y e:=Zl fun u hu=>by
  obtain⟨_,_,t',_,_,h5,_,h6,_⟩:=mO hu
  rw[decide_eq_true (show u.y≤(t:Int) by omega),Bool.and_true]
 unfold iE Rg.left
 rw[h1,Ao,h3,h4]
 grind
end
section
variable {lt:Nat→Nat→Bool}{A B C D:List Nat}{x y j:Nat}
end
theorem QV {xs:List Fr4}{dl:Fr4→Bool}{fd:FuncId}{fst caps:List Tr}(hok:CallOk Tryz.prog fd) (hd:∀x∈xs,aE true Tryz.prog fd [] (dE fst++[.agg ((Fr4.tr false x).map .t)]++dE caps) (aT (.one (tv (.bool (dl x)))))) (hl:xs.length≤1073741823):aE true Tryz.prog 98 [] [.one (.t (sQ false xs)),.one (.t (.f fd fst caps))] (aT (.one (tv (.int .i64 (qQ dl xs))))):=by
 refine bV Tryz.func98 rfl Tryz.ntmps98 rfl aF rfl fun N w c0 h0=>?_
 refine sq (rl (o1 ?_));refine nl (sq (sq (rl ?_)));(iterate 3 refine o1 ?_);refine nl (bl ?_)
 refine lp (γ:=Nat) (fun k=>bP [(0,.one (.t (sQ false xs))),(1,.one (.t (.f fd fst caps))),(7,iN xs.length),(8,iN k)]) (fun k=>[].map some) (fun k=>k≤xs.length∧k≤dH dl xs) (fun k=>xs.length-k) 0 (⟨Nat.zero_le _,Nat.zero_le _⟩) (aP h0 [] rfl) fun k hk=>?_
 refine sq (rl (o1 ?_));refine nl (sq ?_);refine bF rfl (fun h1=>?_) (fun h1=>?_)
 ·refine sk (sq (bl (sq (rl (o1 ?_)))));refine o1 ?_;refine nl (sq (rl ?_));(iterate 4 refine o1 ?_)
  refine dV ((Fr4.tr false) (cM xs (k))) (aI (f:=(Fr4.tr false)) (z:=4) (o:=0) (fun _=>rfl) (wU (by omega)) (bM rfl) rfl) ?_
  refine ce 0 [.agg ((Fr4.tr false (cM xs (k))).map .t)] rfl (hd (cM xs (k)) (eE (by omega))) hok ⟨rfl,rfl⟩ ?_
  refine nl ?_;refine qR rfl (fun h2=>?_) (fun h2=>?_)
  ·refine sq (rl (o1 ?_));refine o1 ?_;refine nl (rt ?_);have hx9:=(nQ hk.2 (by omega)).1 h2
   exact en (.inl rfl) rfl (bD (cX _)) (by decide) (fun _=>trivial) (congrArg (fun z=>FV.one (tv (.int .i64 z))) (by unfold qQ;rw[hx9,if_neg (by omega)]))
  refine sk (rl (o1 ?_));refine bB 18 (k+1) ?_
  refine o1 ?_;refine nl ?_;exact⟨k+1,by omega,⟨by omega,(nQ hk.2 (by omega)).2 h2⟩,aP h0 [] rfl⟩
 refine ex (sq (rl (o1 ?_)));refine nl (rt ?_);have hx9:=yY (dl:=dl) xs
 exact en (.inl rfl) rfl (bD (cX _)) (by decide) (fun _=>trivial) (congrArg (fun z=>FV.one (tv (.int .i64 z))) (by unfold qQ;rw[if_pos (by omega)]))
theorem QW {xs:List Fr4}{dl:Fr4→Bool}{fd:FuncId}{fst caps:List Tr}(hok:CallOk Tryz.prog fd) (hd:∀x∈xs,aE true Tryz.prog fd [] (dE fst++[.agg ((Fr4.tr false x).map .t)]++dE caps) (aT (.one (tv (.bool (dl x)))))) (hl:xs.length≤1073741823):aE true Tryz.prog 69 [] [.one (.t (sQ false xs)),.one (.t (.f fd fst caps))] (aT (.one (tv (.bool (xs.any dl))))):=by
 refine bV Tryz.func69 rfl Tryz.ntmps69 rfl aF rfl fun N w c0 h0=>?_
 refine sq (rl (o1 ?_));refine nl (sq (rl (o1 ?_)));refine o1 ?_
 refine ca (QV hok hd hl) YY ⟨a1 rfl,a1 rfl,rfl⟩ (.one (tv (.int .i64 (qQ dl xs)))) ?_;refine o1 ?_;refine o1 ?_;refine nl (rt ?_)
 exact en (.inl rfl) rfl (bD (cX _)) (by decide) (fun _=>trivial) (congrArg (fun z=>FV.one (tv (.bool z))) (Tm xs))
theorem Tn {x:Int}:aE true Tryz.prog 146 [] [.one (tv (.int .i64 x))] (aT (.one (tv (.bool false)))):=by
 refine bV Tryz.func146 rfl Tryz.ntmps146 rfl aF rfl fun N9 w9 c0 h0=>?_
 refine sq (rl (o1 ?_));refine nl (sq (rl ?_));(iterate 3 refine o1 ?_)
 refine WL.cast (t:=5) (u':=.bool false) rfl (congrArg Value.bool (decide_eq_false fun h=>h rfl)) ?_
 refine o1 ?_;refine nl (rt ?_);exact gO (.inl rfl) rfl (rfl)
theorem Zo {x y:Int}:aE true Tryz.prog 128 [] [.one (tv (.int .i64 x)),.one (tv (.int .i64 y))] (aT (.one (tv (.int .i64 (if x<y then-1 else if y<x then 1 else 0))))):=by
 refine bV Tryz.func128 rfl Tryz.ntmps128 rfl aF rfl fun N9 w9 c0 h0=>?_
 refine sq (rl (o1 ?_));refine nl (sq (rl (o1 ?_)));refine ca (Tn) JN ⟨a1 rfl,rfl⟩ (.one (tv (.bool false))) ?_;refine o1 ?_;refine nl ?_
 refine sq (rl (o1 ?_));refine ca (Tn) JN ⟨a1 rfl,rfl⟩ (.one (tv (.bool false))) ?_;refine o1 ?_;refine nl (sq (sq (rl (o1 ?_))))
 refine nl (dW rfl (sk (sq (sq (rl (o1 ?_))))));refine nl (dW rfl (sk (sq (sq (rl ?_)))))
 (iterate 3 refine o1 ?_);refine nl ?_;refine bF rfl (fun h1=>?_) (fun h1=>?_)
 ·refine sq (rl (o1 ?_));refine nl (rt ?_)
  exact en (.inl rfl) rfl (bD (cX _)) (by decide) (fun _=>trivial) (congrArg (fun z=>FV.one (tv (.int .i64 z))) (by rw[if_pos h1]))
 refine sk (sq (sq (rl ?_)));(iterate 3 refine o1 ?_);refine nl ?_;refine bF rfl (fun h2=>?_) (fun h2=>?_)
 ·refine sq (rl (o1 ?_));refine nl (rt ?_)
  exact en (.inl rfl) rfl (bD (cX _)) (by decide) (fun _=>trivial) (congrArg (fun z=>FV.one (tv (.int .i64 z))) (by rw[if_neg h1];rw[if_pos h2]))
 refine sk (sq (rl (o1 ?_)));refine nl (rt ?_)
 exact en (.inl rfl) rfl (bD (cX _)) (by decide) (fun _=>trivial) (congrArg (fun z=>FV.one (tv (.int .i64 z))) (by rw[if_neg h1];rw[if_neg h2]))
theorem YZ {x y:Wv}:aE true Tryz.prog 127 [] [.agg ((eF x).map .t),.agg ((eF y).map .t)] (aT (.one (tv (.int .i64 (EU x.y y.y))))):=by
 refine bV Tryz.func127 rfl Tryz.ntmps127 rfl aF rfl fun N9 w9 c0 h0=>?_
 refine sq (rl (bx 0 ?_));refine bx 1 ?_;refine o1 ?_;refine nl (sq (rl (o1 ?_)));refine ld ?_;refine o1 ?_;refine ld ?_
 refine ca (Zo (x:=x.y) (y:=y.y)) WA ⟨a1 rfl,a1 rfl,rfl⟩ (.one (tv (.int .i64 (if x.y<y.y then-1 else if y.y<x.y then 1 else 0)))) ?_;refine o1 ?_;refine nl (rt ?_)
 exact en (.inl rfl) rfl (bD (cX _)) (by decide) (fun _=>trivial) (congrArg (fun z=>FV.one (tv (.int .i64 z))) (rfl))
theorem QX {N:Nat}{xs P S Q:List Wv}{a b:Nat}(hx:xs=P++(S++Q)) (ha:P.length=a) (hb:a+S.length=b) (hN:xs.length=N) (hl:N≤1073741823):aE false Tryz.prog 160 [⟨64,18,(xs.flatMap eF).map .t⟩] [.one (.sl 0 0 N),.one (tv (.int .i64 ((a:Nat):Int))),.one (tv (.int .i64 ((b:Nat):Int))),.one (.t (.f 127 [] []))] (Rt [⟨64,18,((P++(mA S++Q)).flatMap eF).map .t⟩] (.tup [])):=by
 refine qS Tryz.func160 rfl Tryz.ntmps160 rfl aF rfl fun N9 M9 w9 c0 h0=>?_
 have hxl:N=a+S.length+Q.length:=by rw[←hN,hx];simp only[fE];omega
 refine sq (rl (o1 ?_));refine o1 ?_;refine bB 11 (a+1) ?_
 refine o1 ?_;refine nl (bl ?_)
 refine lp (γ:=Nat×List Wv) (fun s=>bP [(0,.one (.sl 0 0 (N))),(1,iN a),(2,iN b),(3,.one (.t (.f 127 [] []))),(8,iN (a+s.1))]) (fun s=>[(⟨64,18,(s.2.flatMap eF).map .t⟩:Ob)].map some) (fun s=>1≤s.1∧s.2=P++(mA (S.take s.1)++(S.drop s.1++Q))∧s.2.length=N) (fun s=>S.length-s.1) (1,xs) ⟨bC _,(by rw[hx];show _=P++(mA (S.take 1)++(S.drop 1++Q));rw[EV,←List.append_assoc (S.take 1),List.take_append_drop]),hN⟩ (fQ h0 [0] ⟨aB rfl,rfl⟩) ?_
 rintro⟨t,D⟩ ⟨ht,hD,hDn⟩;dsimp only at ht hD hDn⊢;refine sq (sq (rl ?_));(iterate 3 refine o1 ?_);refine nl ?_;refine bF rfl (fun h1=>?_) (fun h1=>?_)
 ·refine sk (sq (bl (sq (rl (o1 ?_)))));refine o1 ?_;refine nl (bl ?_)
  have hI0:Ins P S Q D t (a+t):=by have h9:=Ins.start (by omega) hD;rwa[ha]at h9
  refine lp (γ:=Nat×List Wv) (fun s=>bP [(0,.one (.sl 0 0 (N))),(1,iN a),(2,iN b),(3,.one (.t (.f 127 [] []))),(8,iN (a+t)),(9,iN s.1)]) (fun s=>[(⟨64,18,(s.2.flatMap eF).map .t⟩:Ob)].map some) (fun s=>Ins P S Q s.2 t s.1∧s.2.length=N) (fun s=>s.1) (a+t,D) ⟨hI0,hDn⟩ (fQ h0 [0] ⟨aB rfl,rfl⟩) ?_
  rintro⟨j,E9⟩ ⟨hI,hE9⟩;dsimp only at hI hE9⊢;have hIl:=hI.len
  refine sq (sq ?_);refine cI [0] [] ?_
  refine dv 0 ?_;refine dv 1 ?_;refine dv 2 ?_;refine dv 3 ?_;refine WD.split (t:=21) rfl rfl (fun h2=>?_) (fun h2=>?_)
  ·refine dv 4 ?_;refine dv 5 ?_;refine dv 6 ?_;refine dv 7 ?_
   refine sP 8 (fU (f:=eF) (z:=18) (o:=0) (us:=eF (cS E9 (j))) gE (iF (l:=E9) (i:=j) (by omega)) (bM rfl) rfl) ?_
   refine dv 9 ?_;refine dv 10 ?_;refine dv 11 ?_;refine vE 29 (j-1) ?_
   refine dv 12 ?_;refine sP 13 (fU (f:=eF) (z:=18) (o:=0) (us:=eF (cS E9 (j-1))) gE (iF (l:=E9) (i:=j-1) (by omega)) (bM rfl) rfl) ?_
   refine yZ 14 1 [.agg ((eF (cS E9 (j))).map .t),.agg ((eF (cS E9 (j-1))).map .t)] rfl rfl (YZ (x:=(cS E9 (j))) (y:=(cS E9 (j-1)))) WB ⟨rfl,rfl,rfl⟩ ?_;refine df 15 ?_
   refine df 16 ?_;refine aW ?_;refine bF rfl (fun h3=>?_) (fun h3=>?_)
   ·refine sk (sq (bl ?_));refine cI [] [17] ?_
    refine dv 0 ?_;refine dv 1 ?_;refine dv 2 ?_;refine dv 3 ?_;refine dv 4 ?_;refine vE 41 (j-1) ?_
    refine dv 5 ?_;refine dv 6 ?_;refine dv 7 ?_;refine vE 44 (j-1) ?_
    refine dv 8 ?_;refine dv 10 ?_;refine dv 11 ?_;refine dv 12 ?_;refine eR 9 13 ?_ ?_
    ·refine Wt 9 (fU (f:=eF) (z:=18) (o:=0) (us:=eF (cS E9 (j-1))) gE (iF (l:=E9) (i:=j-1) (by omega)) (bM rfl) rfl) ?_
     refine WO.one (by kernel_rfl) (Wt 13 (fU (f:=eF) (z:=18) (o:=0) (us:=eF (cS E9 (j))) gE (iF (l:=E9) (i:=j) (by omega)) (bM rfl) rfl) ?_)
     refine dv 14 ?_
     refine JO 15 (gZ (xs:=E9) (k:=j) (x:=(cS E9 (j))) (f:=eF) (z:=18) (o:=0) (x':=(cS E9 (j-1))) (us:=eF (cS E9 (j-1))) gE (iF (l:=E9) (i:=j) (by omega)) (bM rfl) rfl) (jW (xs:=E9) (k:=j) (f:=eF) (z:=18) (o:=0) (us:=eF (cS E9 (j-1))) gE (by omega) (bM rfl)) ?_
     refine dv 16 ?_
     refine uP 17 (gZ (xs:=(E9.set (j) (cS E9 (j-1)))) (k:=j-1) (x:=(cS (E9.set (j) (cS E9 (j-1))) (j-1))) (f:=eF) (z:=18) (o:=0) (x':=(cS E9 (j))) (us:=eF (cS E9 (j))) gE (iF (l:=(E9.set (j) (cS E9 (j-1)))) (i:=j-1) (by simp only[List.length_set];omega)) (bM rfl) rfl) (jW (xs:=(E9.set (j) (cS E9 (j-1)))) (k:=j-1) (f:=eF) (z:=18) (o:=0) (us:=eF (cS E9 (j))) gE (by simp only[List.length_set];omega) (bM rfl)) ?_
     refine aW ?_;refine rl (o1 ?_);refine o1 ?_;refine bB 36 (j-1) ?_
     refine o1 ?_;refine nl ?_
     exact⟨(j-1,((E9.set (j) (cS E9 (j-1))).set (j-1) (cS E9 (j)))),by dsimp only;omega,⟨hI.step (by omega) (Hb.1 h3),by simp only[List.length_set];exact hE9⟩,fQ h0 [0] ⟨aB rfl,rfl⟩⟩
    refine Wt 13 (fU (f:=eF) (z:=18) (o:=0) (us:=eF (cS E9 (j))) gE (iF (l:=E9) (i:=j) (by omega)) (bM rfl) rfl) ?_
    refine WO.one (by kernel_rfl) (Wt 9 (fU (f:=eF) (z:=18) (o:=0) (us:=eF (cS E9 (j-1))) gE (iF (l:=E9) (i:=j-1) (by omega)) (bM rfl) rfl) ?_)
    refine dv 14 ?_
    refine JO 15 (gZ (xs:=E9) (k:=j) (x:=(cS E9 (j))) (f:=eF) (z:=18) (o:=0) (x':=(cS E9 (j-1))) (us:=eF (cS E9 (j-1))) gE (iF (l:=E9) (i:=j) (by omega)) (bM rfl) rfl) (jW (xs:=E9) (k:=j) (f:=eF) (z:=18) (o:=0) (us:=eF (cS E9 (j-1))) gE (by omega) (bM rfl)) ?_
    refine dv 16 ?_
    refine uP 17 (gZ (xs:=(E9.set (j) (cS E9 (j-1)))) (k:=j-1) (x:=(cS (E9.set (j) (cS E9 (j-1))) (j-1))) (f:=eF) (z:=18) (o:=0) (x':=(cS E9 (j))) (us:=eF (cS E9 (j))) gE (iF (l:=(E9.set (j) (cS E9 (j-1)))) (i:=j-1) (by simp only[List.length_set];omega)) (bM rfl) rfl) (jW (xs:=(E9.set (j) (cS E9 (j-1)))) (k:=j-1) (f:=eF) (z:=18) (o:=0) (us:=eF (cS E9 (j))) gE (by simp only[List.length_set];omega) (bM rfl)) ?_
    refine aW ?_;refine rl (o1 ?_);refine o1 ?_;refine bB 36 (j-1) ?_
    refine o1 ?_;refine nl ?_
    exact⟨(j-1,((E9.set (j) (cS E9 (j-1))).set (j-1) (cS E9 (j)))),by dsimp only;omega,⟨hI.step (by omega) (Hb.1 h3),by simp only[List.length_set];exact hE9⟩,fQ h0 [0] ⟨aB rfl,rfl⟩⟩
   refine ex ?_;have hD2:=hI.stop (by omega) (.inr (fun h9=>h3 (Hb.2 h9)))
   refine rl (o1 ?_);refine o1 ?_;refine bB 16 (a+t+1) ?_
   refine o1 ?_;refine nl ?_;exact⟨(t+1,E9),by dsimp only;omega,⟨by omega,hD2,hE9⟩,fQ h0 [0] ⟨aB rfl,rfl⟩⟩
  refine aZ 4 ?_;refine aZ 5 ?_;refine aZ 6 ?_;refine aZ 7 ?_;refine aZ 8 ?_;refine aZ 9 ?_;refine aZ 10 ?_;refine aZ 11 ?_;refine aZ 12 ?_;refine aZ 13 ?_;refine aZ 14 ?_
  refine aZ 15 ?_;refine dv 16 ?_;refine aW ?_;refine dW rfl (ex ?_);have hD2:=hI.stop (by omega) (.inl (by omega))
  refine rl (o1 ?_);refine o1 ?_;refine bB 16 (a+t+1) ?_
  refine o1 ?_;refine nl ?_;exact⟨(t+1,E9),by dsimp only;omega,⟨by omega,hD2,hE9⟩,fQ h0 [0] ⟨aB rfl,rfl⟩⟩
 refine ex ?_;have hfin:D=P++(mA S++Q):=by rw[hD,fF (by omega),List.drop_of_length_le (by omega),List.nil_append]
 exact jS (lent':=[⟨64,18,((P++(mA S++Q)).flatMap eF).map .t⟩]) (.inr rfl) rfl Ch (by decide) (fun _ h=>by cases h) ⟨⟨rfl,rfl⟩,trivial⟩ ⟨congrArg (fun l:List Wv=>some (⟨64,18,(l.flatMap eF).map .t⟩:Ob)) hfin,trivial⟩ ⟨dF _,trivial⟩ (fun h=>by cases h) ⟨rfl,rfl⟩
def rM (a:Fr4):Bool:=bY a.s a.x a.t a.y
def gW (y:Yr) (E:Nat):Bool:=decide ((y.m.length:Int)=(E:Int))&&(decide ((y.b.length:Int)=(E:Int))&&(!(y.b.any fun a=> !rM a)&&(rM y.l&&decide (0≤y.l.q.num.sign))))
theorem wV (xs:List Bool){k:Nat}(h:k<xs.length):((bT xs).drop (k*1)).take [Tr.v (.bool (nM xs k))].length=[.v (.bool (nM xs k))]:=by
 have h1:(bT xs)[k]? =some (.v (.bool (nM xs k))):=by simp[bT,nM,h]
 have h2:k<(bT xs).length:=by rw[Nu];exact h
 rw[Nat.mul_one,List.drop_eq_getElem_cons h2,List.length_singleton,List.take_succ_cons,List.take_zero]
 rw[gG h2]at h1
 rw[Option.some.inj h1]
theorem JP {a:Fr4}(ha:a.ok):aE true Tryz.prog 67 [] [qF a] (aT (.one (tv (.bool (!rM a))))):=by
 refine bV Tryz.func67 rfl Tryz.ntmps67 rfl aF rfl fun N9 w9 c0 h0=>?_
 refine sq (rl (bx 0 ?_));refine o1 ?_;refine nl (sq (rl (ld ?_)))
 refine ca (Nv ha) EW ⟨aC rfl,rfl⟩ (.one (tv (.bool (bY a.s a.x a.t a.y)))) ?_;refine o1 ?_;refine o1 ?_;refine nl (rt ?_)
 exact en (.inl rfl) rfl (bD (cX _)) (by decide) (fun _=>trivial) rfl
theorem MI {y:Yr}{E:Nat}(hb:∀a∈y.b,a.ok) (hy:y.l.ok) (hl:y.b.length≤1073741823):aE true Tryz.prog 37 [] [.agg ((yrt y).map .t),.one (tv (.int .i64 ((E:Nat):Int)))] (aT (.one (tv (.bool (gW y E))))):=by
 refine bV Tryz.func37 rfl Tryz.ntmps37 rfl aF rfl fun N9 w9 c0 h0=>?_
 refine sq (rl (bx 0 ?_));refine o1 ?_;refine nl (sq (rl (o1 ?_)));refine nl (sq (rl (o1 ?_)));refine ld ?_
 (iterate 4 refine o1 ?_);refine WL.split (t:=11) rfl (fun h1=>?_) (fun h1=>?_)
 ·refine o1 ?_;refine ld ?_;(iterate 5 refine o1 ?_);refine WL.split (t:=18) rfl (fun h2=>?_) (fun h2=>?_)
  ·refine o1 ?_;refine ld ?_;refine o1 ?_
   refine ca (QW (xs:=y.b) (dl:=fun a=> !rM a) (fd:=67) (fst:=[]) (caps:=[]) QY (fun x hx=>JP (hb x hx)) hl) ZA ⟨a1 rfl,a1 rfl,rfl⟩ (.one (tv (.bool (y.b.any fun a=> !rM a)))) ?_
   refine WL.splitb (t:=22) rfl (fun h3=>?_) (fun h3=>?_)
   ·(iterate 3 refine o1 ?_);(iterate 5 refine cY ?_);refine o1 ?_;refine o1 ?_;(iterate 4 refine cY ?_);refine o1 ?_;refine o1 ?_;refine nl (rt ?_)
    exact gO (.inl rfl) rfl (by unfold gW;simp only[decide_eq_true h1,decide_eq_true h2,h3,ge_iff_le,Bool.not_true,Bool.not_false,Bool.or_true,Bool.true_or,Bool.false_or,Bool.or_false,Bool.false_eq_true,if_true,if_false,ite_true,ite_false,Bool.and_true,Bool.true_and,Bool.false_and,Bool.and_false,Bool.not_not] <;> first | rfl | (simp;done) | grind)
   (iterate 5 refine o1 ?_);refine ld ?_;refine ce 1 [qF y.l] rfl (JP (a:=y.l) hy) QY ⟨rfl,rfl⟩ ?_;refine WL.splitb (t:=29) rfl (fun h4=>?_) (fun h4=>?_)
   ·(iterate 3 refine o1 ?_);(iterate 4 refine cY ?_);refine o1 ?_;refine o1 ?_;refine nl (rt ?_)
    exact gO (.inl rfl) rfl (by unfold gW;simp only[decide_eq_true h1,decide_eq_true h2,h3,h4,ge_iff_le,Bool.not_true,Bool.not_false,Bool.or_true,Bool.true_or,Bool.false_or,Bool.or_false,Bool.false_eq_true,if_true,if_false,ite_true,ite_false,Bool.and_true,Bool.true_and,Bool.false_and,Bool.and_false,Bool.not_not] <;> first | rfl | (simp;done) | grind)
   (iterate 4 refine o1 ?_);refine ld ?_;refine ca (iZ (p:=y.l.q) ⟨hy,rfl⟩) mU ⟨aC rfl,rfl⟩ (.one (tv (.int .i64 y.l.q.num.sign))) ?_;(iterate 3 refine o1 ?_);refine nl ?_
   refine rt ?_
   exact gO (.inl rfl) rfl (by unfold gW;simp only[decide_eq_true h1,decide_eq_true h2,h3,h4,ge_iff_le,Bool.not_true,Bool.not_false,Bool.or_true,Bool.true_or,Bool.false_or,Bool.or_false,Bool.false_eq_true,if_true,if_false,ite_true,ite_false,Bool.and_true,Bool.true_and,Bool.false_and,Bool.and_false,Bool.not_not] <;> first | rfl | (simp;done) | grind)
  (iterate 5 refine cY ?_);refine o1 ?_;refine o1 ?_;(iterate 5 refine cY ?_);refine o1 ?_;refine o1 ?_;(iterate 4 refine cY ?_);refine o1 ?_;refine o1 ?_;refine nl (rt ?_)
  exact gO (.inl rfl) rfl (by unfold gW;simp only[decide_eq_true h1,decide_eq_false h2,ge_iff_le,Bool.not_true,Bool.not_false,Bool.or_true,Bool.true_or,Bool.false_or,Bool.or_false,Bool.false_eq_true,if_true,if_false,ite_true,ite_false,Bool.and_true,Bool.true_and,Bool.false_and,Bool.and_false,Bool.not_not] <;> first | rfl | (simp;done) | grind)
 (iterate 5 refine cY ?_);refine o1 ?_;refine o1 ?_;(iterate 5 refine cY ?_);refine o1 ?_;refine o1 ?_;(iterate 5 refine cY ?_);refine o1 ?_;refine o1 ?_;(iterate 4 refine cY ?_)
 refine o1 ?_;refine o1 ?_;refine nl (rt ?_)
 exact gO (.inl rfl) rfl (by unfold gW;simp only[decide_eq_false h1,ge_iff_le,Bool.not_true,Bool.not_false,Bool.or_true,Bool.true_or,Bool.false_or,Bool.or_false,Bool.false_eq_true,if_true,if_false,ite_true,ite_false,Bool.and_true,Bool.true_and,Bool.false_and,Bool.and_false,Bool.not_not] <;> first | rfl | (simp;done) | grind)
theorem Zp {y:Yr}{E:Nat}(hb:∀a∈y.b,a.ok) (hy:y.l.ok) (hl:y.b.length≤1073741823):aE true Tryz.prog 36 [] [.agg ((yrt y).map .t),.one (.t (.p false 3 [.v (.int .i64 ((E:Nat):Int))]))] (aT (.one (tv (.bool (!gW y E))))):=by
 refine bV Tryz.func36 rfl Tryz.ntmps36 rfl aF rfl fun N9 w9 c0 h0=>?_
 refine WP.sub (Nw (i:=1) rfl rfl) ?_;refine sq (rl (bx 0 ?_));refine o1 ?_;refine nl (sq (rl (ld ?_)))
 refine dV ([.v (.int .i64 ((E:Nat):Int))]) rfl ?_;refine ca (MI (E:=E) hb hy hl) ZB ⟨aC rfl,a1 rfl,rfl⟩ (.one (tv (.bool (gW y E)))) ?_;refine o1 ?_;refine o1 ?_;refine nl ?_
 refine rt ?_;exact en (.inl rfl) rfl (bD (cX _)) (by decide) (fun _=>trivial) rfl
theorem WC {xs:List Yr}{dl:Yr→Bool}{fd:FuncId}{fst caps:List Tr}(hok:CallOk Tryz.prog fd) (hd:∀x∈xs,aE true Tryz.prog fd [] (dE fst++[.agg ((yrt x).map .t)]++dE caps) (aT (.one (tv (.bool (dl x)))))) (hl:xs.length≤1073741823):aE true Tryz.prog 66 [] [.one (.t (gT xs)),.one (.t (.f fd fst caps))] (aT (.one (tv (.int .i64 (qQ dl xs))))):=by
 refine bV Tryz.func66 rfl Tryz.ntmps66 rfl aF rfl fun N w c0 h0=>?_
 refine sq (rl (o1 ?_));refine nl (sq (sq (rl ?_)));(iterate 3 refine o1 ?_);refine nl (bl ?_)
 refine lp (γ:=Nat) (fun k=>bP [(0,.one (.t (gT xs))),(1,.one (.t (.f fd fst caps))),(7,iN xs.length),(8,iN k)]) (fun k=>[].map some) (fun k=>k≤xs.length∧k≤dH dl xs) (fun k=>xs.length-k) 0 (⟨Nat.zero_le _,Nat.zero_le _⟩) (aP h0 [] rfl) fun k hk=>?_
 refine sq (rl (o1 ?_));refine nl (sq ?_);refine bF rfl (fun h1=>?_) (fun h1=>?_)
 ·refine sk (sq (bl (sq (rl (o1 ?_)))));refine o1 ?_;refine nl (sq (rl ?_));(iterate 4 refine o1 ?_)
  refine dV (yrt (aG xs (k))) (aI (f:=yrt) (z:=6) (o:=0) cL (bR (by omega)) (bM rfl) rfl) ?_
  refine ce 0 [.agg ((yrt (aG xs (k))).map .t)] rfl (hd (aG xs (k)) (fP (by omega))) hok ⟨rfl,rfl⟩ ?_
  refine nl ?_;refine qR rfl (fun h2=>?_) (fun h2=>?_)
  ·refine sq (rl (o1 ?_));refine o1 ?_;refine nl (rt ?_);have hx9:=(nQ hk.2 (by omega)).1 h2
   exact en (.inl rfl) rfl (bD (cX _)) (by decide) (fun _=>trivial) (congrArg (fun z=>FV.one (tv (.int .i64 z))) (by unfold qQ;rw[hx9,if_neg (by omega)]))
  refine sk (rl (o1 ?_));refine bB 18 (k+1) ?_
  refine o1 ?_;refine nl ?_;exact⟨k+1,by omega,⟨by omega,(nQ hk.2 (by omega)).2 h2⟩,aP h0 [] rfl⟩
 refine ex (sq (rl (o1 ?_)));refine nl (rt ?_);have hx9:=yY (dl:=dl) xs
 exact en (.inl rfl) rfl (bD (cX _)) (by decide) (fun _=>trivial) (congrArg (fun z=>FV.one (tv (.int .i64 z))) (by unfold qQ;rw[if_pos (by omega)]))
theorem JQ {xs:List Yr}{dl:Yr→Bool}{fd:FuncId}{fst caps:List Tr}(hok:CallOk Tryz.prog fd) (hd:∀x∈xs,aE true Tryz.prog fd [] (dE fst++[.agg ((yrt x).map .t)]++dE caps) (aT (.one (tv (.bool (dl x)))))) (hl:xs.length≤1073741823):aE true Tryz.prog 35 [] [.one (.t (gT xs)),.one (.t (.f fd fst caps))] (aT (.one (tv (.bool (xs.any dl))))):=by
 refine bV Tryz.func35 rfl Tryz.ntmps35 rfl aF rfl fun N w c0 h0=>?_
 refine sq (rl (o1 ?_));refine nl (sq (rl (o1 ?_)));refine o1 ?_
 refine ca (WC hok hd hl) ZC ⟨a1 rfl,a1 rfl,rfl⟩ (.one (tv (.int .i64 (qQ dl xs)))) ?_;refine o1 ?_;refine o1 ?_;refine nl (rt ?_)
 exact en (.inl rfl) rfl (bD (cX _)) (by decide) (fun _=>trivial) (congrArg (fun z=>FV.one (tv (.bool z))) (Tm xs))
theorem JR {xs:List Vn}{dl:Vn→Bool}{fd:FuncId}{fst caps:List Tr}(hok:CallOk Tryz.prog fd) (hd:∀x∈xs,aE true Tryz.prog fd [] (dE fst++[.agg ((cA false x).map .t)]++dE caps) (aT (.one (tv (.bool (dl x)))))) (hl:xs.length≤1073741823):aE true Tryz.prog 74 [] [.one (.t (cO false false xs)),.one (.t (.f fd fst caps))] (aT (.one (tv (.int .i64 (qQ dl xs))))):=by
 refine bV Tryz.func74 rfl Tryz.ntmps74 rfl aF rfl fun N w c0 h0=>?_
 refine sq (rl (o1 ?_));refine nl (sq (sq (rl ?_)));(iterate 3 refine o1 ?_);refine nl (bl ?_)
 refine lp (γ:=Nat) (fun k=>bP [(0,.one (.t (cO false false xs))),(1,.one (.t (.f fd fst caps))),(7,iN xs.length),(8,iN k)]) (fun k=>[].map some) (fun k=>k≤xs.length∧k≤dH dl xs) (fun k=>xs.length-k) 0 (⟨Nat.zero_le _,Nat.zero_le _⟩) (aP h0 [] rfl) fun k hk=>?_
 refine sq (rl (o1 ?_));refine nl (sq ?_);refine bF rfl (fun h1=>?_) (fun h1=>?_)
 ·refine sk (sq (bl (sq (rl (o1 ?_)))));refine o1 ?_;refine nl (sq (rl ?_));(iterate 4 refine o1 ?_)
  refine dV ((cA false) (aY xs (k))) (aI (f:=(cA false)) (z:=18) (o:=0) (cK false) (hH (by omega)) (bM rfl) rfl) ?_
  refine ce 0 [.agg ((cA false (aY xs (k))).map .t)] rfl (hd (aY xs (k)) (tS (by omega))) hok ⟨rfl,rfl⟩ ?_
  refine nl ?_;refine qR rfl (fun h2=>?_) (fun h2=>?_)
  ·refine sq (rl (o1 ?_));refine o1 ?_;refine nl (rt ?_);have hx9:=(nQ hk.2 (by omega)).1 h2
   exact en (.inl rfl) rfl (bD (cX _)) (by decide) (fun _=>trivial) (congrArg (fun z=>FV.one (tv (.int .i64 z))) (by unfold qQ;rw[hx9,if_neg (by omega)]))
  refine sk (rl (o1 ?_));refine bB 18 (k+1) ?_
  refine o1 ?_;refine nl ?_;exact⟨k+1,by omega,⟨by omega,(nQ hk.2 (by omega)).2 h2⟩,aP h0 [] rfl⟩
 refine ex (sq (rl (o1 ?_)));refine nl (rt ?_);have hx9:=yY (dl:=dl) xs
 exact en (.inl rfl) rfl (bD (cX _)) (by decide) (fun _=>trivial) (congrArg (fun z=>FV.one (tv (.int .i64 z))) (by unfold qQ;rw[if_pos (by omega)]))
theorem To {v:Vn}{y e:Int}:aE true Tryz.prog 75 [] [.agg ((cA false v).map .t),.one (.t (.p false 3 [.v (.int .i64 y)])),.one (.t (.p false 3 [.v (.int .i64 e)]))] (aT (.one (tv (.bool (cW y e v))))):=by
 refine bV Tryz.func75 rfl Tryz.ntmps75 rfl aF rfl fun N9 w9 c0 h0=>?_
 refine WP.sub (Nw (i:=1) rfl rfl) ?_;refine WP.sub (Nw (i:=2) rfl rfl) ?_;refine sq (rl (bx 0 ?_));refine o1 ?_;refine nl (sq (rl (o1 ?_)))
 refine ld ?_;refine dV ([.v (.int .i64 y)]) rfl ?_;refine o1 ?_;refine o1 ?_;refine WL.split (t:=9) rfl (fun h1=>?_) (fun h1=>?_)
 ·refine o1 ?_;refine ld ?_;refine dV ([.v (.int .i64 e)]) rfl ?_;(iterate 3 refine o1 ?_);refine nl (rt ?_)
  exact gO (.inl rfl) rfl (by unfold cW;simp only[decide_eq_true h1,Bool.not_true,Bool.not_false,Bool.or_true,Bool.true_or,Bool.false_or,Bool.or_false,Bool.false_eq_true,if_true,if_false,ite_true,ite_false,Bool.and_true,Bool.true_and,Bool.false_and,Bool.and_false,Bool.not_not] <;> first | rfl | simp)
 (iterate 4 refine cY ?_);refine o1 ?_;refine o1 ?_;refine nl (rt ?_)
 exact gO (.inl rfl) rfl (by unfold cW;simp only[decide_eq_false h1,Bool.not_true,Bool.not_false,Bool.or_true,Bool.true_or,Bool.false_or,Bool.or_false,Bool.false_eq_true,if_true,if_false,ite_true,ite_false,Bool.and_true,Bool.true_and,Bool.false_and,Bool.and_false,Bool.not_not] <;> first | rfl | simp)
theorem jF {a:Fr4}{p:Rat}(ha:Qn a p):aE false Tryz.prog 46 [] [qF a] (aT (qF (.of p))):=pV ha
theorem qL {a b:Fr4}{p q:Rat}(ha:Qn a p) (hb:Qn b q):aE true Tryz.prog 19 [] [qF a,qF b] (aT (.one (tv (.int .i64 (p-q).num.sign)))):=by
 refine bV Tryz.func19 rfl Tryz.ntmps19 rfl aF rfl fun N w c0 h0=>?_
 have hs:=ha.sz;have hs':=hb.sz
 have hs1:=hs.1;have hs2:=hs.2;have hs3:=hs'.1;have hs4:=hs'.2
 have hs5:(dg 4294967296 ((p.den:Int)).natAbs).length≤68719476736:=hs2
 have hs6:(dg 4294967296 ((q.den:Int)).natAbs).length≤68719476736:=hs4
 refine sq (rl (bx 0 ?_));refine bx 1 ?_;refine o1 ?_;refine nl ?_
 refine md (γ:=Unit) (fun _=>bP [(2,pN 0),(3,pN 1),(4,iN 0)]) (fun _=>([⟨48,0,((Fr4.of p).tr false).map .t⟩,⟨48,0,((Fr4.of q).tr false).map .t⟩]:List Ob).map some) (fun _=>True) ?_ fun _ _=>?_
 ·refine cI [0,1] [0,1,2,3,4,5] ?_
  refine eR 0 2 ?_ ?_
  ·refine Tp 0 ?_;refine eR 1 2 ?_ ?_
   ·refine fB 1 rfl (jF ha) lO ⟨aC rfl,rfl⟩ (qF (.of p)) ?_;refine WO.one (by kernel_rfl) (Tp 2 ?_)
    refine aS 3 rfl (jF hb) lO ⟨aC rfl,rfl⟩ (qF (.of q)) ?_;refine dst 4 ?_;refine dst 5 ?_;refine aW ?_
    exact⟨(),trivial,aP h0 [0,1] ⟨oe rfl rfl,oe rfl rfl,rfl⟩⟩
   refine Tp 2 ?_;refine aS 1 rfl (jF ha) lO ⟨aC rfl,rfl⟩ (qF (.of p)) ?_;refine aS 3 rfl (jF hb) lO ⟨aC rfl,rfl⟩ (qF (.of q)) ?_;refine dst 4 ?_;refine dst 5 ?_
   refine aW ?_;exact⟨(),trivial,aP h0 [0,1] ⟨oe rfl rfl,oe rfl rfl,rfl⟩⟩
  refine Tp 2 ?_;refine WO.one (by kernel_rfl) (Tp 0 ?_)
  refine aS 1 rfl (jF ha) lO ⟨aC rfl,rfl⟩ (qF (.of p)) ?_;refine aS 3 rfl (jF hb) lO ⟨aC rfl,rfl⟩ (qF (.of q)) ?_;refine dst 4 ?_;refine dst 5 ?_;refine aW ?_
  exact⟨(),trivial,aP h0 [0,1] ⟨oe rfl rfl,oe rfl rfl,rfl⟩⟩
 refine sq ?_;refine cI [0,1] [11] ?_
 refine dv 0 ?_;refine aK 1 ?_;refine dv 2 ?_;refine aK 3 ?_;refine dv 5 ?_;refine aK 6 ?_;refine dv 7 ?_;refine aK 8 ?_;have hn1:=gJ (p.num) ((q.den:Int))
 refine aS 4 rfl (Zq (oR hs) (iP hs')) Nx ⟨aC rfl,aC rfl,rfl⟩ (kF ((p.num*(q.den:Int)))) ?_;have hn2:=gJ (q.num) ((p.den:Int))
 refine aS 9 rfl (Zq (oR hs') (iP hs)) Nx ⟨aC rfl,aC rfl,rfl⟩ (kF ((q.num*(p.den:Int)))) ?_
 refine aS 10 rfl (QZ (Zn.of (k:=(p.num*(q.den:Int))) (by omega)) (Zn.of (k:=(q.num*(p.den:Int))) (by omega))) EX ⟨aC rfl,aC rfl,rfl⟩ (.one (tv (.int .i64 ((p.num*(q.den:Int))-(q.num*(p.den:Int))).sign))) ?_
 refine dI 11 ?_
 refine aW ?_;refine rt ?_;exact en (.inl rfl) rfl (bD (cX _)) (by decide) (fun _=>trivial) (by rw[←Zr];rfl)
theorem Zs {a b:Fr4}{p q:Rat}(ha:Qn a p) (hb:Qn b q):aE true Tryz.prog 148 [] [qF a,qF b] (aT (.one (tv (.bool (decide (q<p)))))):=by
 refine bV Tryz.func148 rfl Tryz.ntmps148 rfl aF rfl fun N w c0 h0=>?_
 refine sq (rl (bx 0 ?_));refine bx 1 ?_;refine o1 ?_;refine nl (sq (rl (ld ?_)));refine o1 ?_;refine ld ?_
 refine ca (qL hb ha) kI ⟨aC rfl,aC rfl,rfl⟩ (.one (tv (.int .i64 (q-p).num.sign))) ?_;refine o1 ?_;refine o1 ?_;refine nl (rt ?_)
 exact en (.inl rfl) rfl (bD (cX _)) (by decide) (fun _=>trivial) (congrArg (fun z=>FV.one (tv (.bool z))) (Tq p q))
theorem Zt {a:Fr4}:aE false Tryz.prog 147 [] [qF a] (aT (.one (.t (.f 148 [.a (a.tr false)] [])))):=by
 refine bV Tryz.func147 rfl Tryz.ntmps147 rfl aF rfl fun N w c0 h0=>?_
 refine sq (rl (bx 0 ?_));refine o1 ?_;refine nl (sq (rl (ld ?_)));refine o1 ?_;refine o1 ?_;refine nl (rt ?_)
 exact en (.inl rfl) rfl (bD (.one (.id rfl))) (by decide) (fun h=>by cases h) rfl
theorem RA {a:Fr4}{p:Rat}{xs:List Fr4}(ha:Qn a p) (hx:∀x∈xs,x.ok) (hl:xs.length≤1099511627776):aE false Tryz.prog 51 [] [qF a,.one (.t (sQ false xs)),.one (.t (.f 147 [] []))] (aT (qF (.of (aO p (xs.map Fr4.q))))):=by
 refine bV Tryz.func51 rfl Tryz.ntmps51 rfl aF rfl fun N w c0 h0=>?_
 have hz:∀x∈xs,Sz 68719476736 x.q:=fun x h=>(show Qn x x.q from⟨hx x h,rfl⟩).sz
 refine sq (rl (bx 0 ?_));refine al 1 ?_;refine nl (sq (rl (ld ?_)));refine ca (jF ha) lO ⟨aC rfl,rfl⟩ (qF (.of p)) ?_
 refine ca (eW (z:=0) (by omega) (by omega)) kR ⟨a1 rfl,rfl⟩ (qF (.of ((0:Int):Rat))) ?_
 refine ca (vF ha.sz) wW ⟨aC rfl,aC rfl,rfl⟩ (qF (.of p)) ?_;refine al 2 ?_;refine st ?_;refine nl (sq (sq (rl ?_)));(iterate 3 refine o1 ?_);refine nl ?_
 refine bl ?_
 refine lp (γ:=Nat) (fun k=>bP [(2,.one (.t (.f 147 [] []))),(6,pN 0),(7,pN 1),(14,.one (.t (sQ false xs))),(15,iN xs.length),(16,iN k)]) (fun k=>[(⟨48,0,[tv (.bool false),tv (.slice none 0 0),tv (.bool false),tv (.slice none 0 0)]⟩:Ob),⟨48,0,((Fr4.of (aO p ((xs.take k).map Fr4.q))).tr false).map .t⟩].map some) (fun k=>k≤xs.length∧Sz 68719476736 (aO p ((xs.take k).map Fr4.q))) (fun k=>xs.length-k) 0 ⟨Nat.zero_le _,ha.sz⟩ (aP h0 [1,2] ⟨oe rfl rfl,aB rfl,rfl⟩) fun k hk=>?_
 refine sq (rl (o1 ?_));refine nl (sq ?_);refine bF rfl (fun h1=>?_) (fun h1=>?_)
 ·refine sk (sq (bl (sq (rl (o1 ?_)))));refine dV ((cM xs (k)).tr false) (fL xs (k:=k) (by omega)) ?_
  refine al 2 ?_;refine st ?_;refine nl (sq ?_);refine cI [0,1,2] [] ?_
  refine dv 0 ?_;refine aK 1 ?_;refine dv 2 ?_;refine aK 4 ?_
  refine yZ 3 3 [.agg [tv (.bool (aL (aO p ((xs.take k).map Fr4.q)).num)),.t (sU false (dg 4294967296 (aO p ((xs.take k).map Fr4.q)).num.natAbs)),tv (.bool false),.t (sU false (dg 4294967296 (aO p ((xs.take k).map Fr4.q)).den))]] rfl rfl (Zt (a:=.of (aO p ((xs.take k).map Fr4.q)))) JS ⟨rfl,rfl⟩ ?_
  refine yZ 5 3 [qF (cM xs (k))] rfl rfl (Zs (a:=.of (aO p ((xs.take k).map Fr4.q))) (b:=(cM xs (k))) (Qn.of (p:=(aO p ((xs.take k).map Fr4.q))) hk.2) ⟨hx _ (eE (by omega)),rfl⟩) JT ⟨rfl,rfl⟩ ?_
  refine aW ?_;refine bF rfl (fun h2=>?_) (fun h2=>?_)
  ·refine rl (ld ?_);refine ca (jF ⟨hx _ (eE (by omega)),rfl⟩) lO ⟨aC rfl,rfl⟩ (qF (.of (cM xs (k)).q)) ?_
   refine ca (eW (z:=0) (by omega) (by omega)) kR ⟨a1 rfl,rfl⟩ (qF (.of ((0:Int):Rat))) ?_
   refine ca (vF (hz _ (eE (by omega)))) wW ⟨aC rfl,aC rfl,rfl⟩ (qF (.of (cM xs (k)).q)) ?_
   refine st ?_;refine nl (rl (o1 ?_));refine bB 30 (k+1) ?_
   refine o1 ?_;refine nl ?_;have hst:(aO p ((xs.take (k+1)).map Fr4.q))=(cM xs k).q:=by rw[oS (by omega),tT];exact if_pos h2
   exact⟨k+1,by omega,⟨by omega,by rw[hst];exact hz _ (eE (by omega))⟩,aP h0 [0,1] ⟨oe rfl rfl,aB (congrArg (fun q=>some (⟨48,0,((Fr4.of q).tr false).map .t⟩:Ob)) hst.symm),rfl⟩⟩
  refine sk (rl (o1 ?_));refine bB 30 (k+1) ?_
  refine o1 ?_;refine nl ?_;have hst:(aO p ((xs.take (k+1)).map Fr4.q))=(aO p ((xs.take k).map Fr4.q)):=by rw[oS (by omega),tT];exact if_neg h2
  exact⟨k+1,by omega,⟨by omega,by rw[hst];exact hk.2⟩,aP h0 [0,1] ⟨oe rfl rfl,aB (congrArg (fun q=>some (⟨48,0,((Fr4.of q).tr false).map .t⟩:Ob)) hst.symm),rfl⟩⟩
 refine ex (sq (rl (ld ?_)));refine st ?_;refine nl (rt ?_)
 exact en (.inl rfl) rfl (bD (.agg (.cons (.id rfl) (.cons (.id rfl) (.cons (.id rfl) (.cons (.id rfl) .nil)))))) (by decide) (fun h=>by cases h) (by rw[fF (by omega)];rfl)
theorem WE {a:Fr4}{p:Rat}{xs:List Fr4}(ha:Qn a p) (hx:∀x∈xs,x.ok) (hl:xs.length≤1099511627776):aE false Tryz.prog 129 [] [qF a,.one (.t (sQ false xs))] (aT (qF (.of (aO p (xs.map Fr4.q))))):=by
 refine bV Tryz.func129 rfl Tryz.ntmps129 rfl aF rfl fun N w c0 h0=>?_
 refine sq (rl (bx 0 ?_));refine al 1 ?_;refine nl (sq (rl (ld ?_)));refine o1 ?_
 refine ca (RA ha hx hl) EY ⟨aC rfl,a1 rfl,a1 rfl,rfl⟩ (qF (.of (aO p (xs.map Fr4.q)))) ?_;refine st ?_;refine nl (rt ?_)
 exact en (.inl rfl) rfl (bD (.agg (.cons (.id rfl) (.cons (.id rfl) (.cons (.id rfl) (.cons (.id rfl) .nil)))))) (by decide) (fun h=>by cases h) (rfl)
theorem vG {y:Int}{a:Fr4}{p:Rat}(ha:Qn a p):aE true Tryz.prog 103 [] [.agg (((Tr.v (.int .i64 y)::a.tr false):List Tr).map .t)] (aT (.agg ((cZ true (y,p)).map .t))):=by
 refine bV Tryz.func103 rfl Tryz.ntmps103 rfl aF rfl fun N w c0 h0=>?_
 refine sq (rl (bx 0 ?_));refine al 1 ?_;refine nl (sq ?_);refine cI [0,1] [7] ?_
 refine dv 0 ?_;refine aK 1 ?_;refine dv 2 ?_;refine aK 3 ?_;refine aS 4 rfl (eW (z:=0) (by omega) (by omega)) kR ⟨a1 rfl,rfl⟩ (qF (.of ((0:Int):Rat))) ?_
 refine kS 2 5 rfl (RB ha) Dj ⟨aC rfl,aC rfl,rfl⟩ ?_;refine df 6 ?_;refine dst 7 ?_;refine aW ?_;refine rt ?_
 exact en (.inl rfl) rfl (bD (.agg (.cons (.id rfl) (.cons (.id rfl) (.cons (.sl (trs:=aJ (dg 4294967296 p.num.natAbs)) rfl rfl (bS _) (aV _)) (.cons (.id rfl) (.cons (.sl (trs:=aJ (dg 4294967296 p.den)) rfl rfl (bS _) (aV _)) .nil))))))) (by decide) (fun _=>EZ (y,p)) rfl
theorem Zu {vs:List (Int×Rat)}{rest:List Tr}(hz:∀x∈vs,Sz 68719476736 x.2) (hl:vs.length≤1073741823):aE true Tryz.prog 73 [] [.one (.ef (sV 102 false vs::rest) 0)] (aT (.one (.t (sO 102 vs)))):=by
 refine bV Tryz.func73 rfl Tryz.ntmps73 rfl aF rfl fun N w c0 h0=>?_
 refine sq (rl (o1 ?_));refine nl (sq (rl (o1 ?_)));refine nl (sq (sq (rl ?_)));(iterate 3 refine o1 ?_)
 refine dV ([(sV 102 false vs)]) rfl ?_;refine o1 ?_;refine o1 ?_;refine nl (bl ?_)
 refine lp (γ:=Nat) (fun k=>bP [(3,.one (.sl 0 0 k)),(9,.one (.t (sV 102 false vs))),(10,iN vs.length),(11,iN k)]) (fun k=>[({t:=102,z:=5,l:=qT (vs.take k)}:Ob)].map some) (fun k=>k≤vs.length) (fun k=>vs.length-k) 0 (Nat.zero_le _) ((nr (i:=3) 0 102 5 rfl rfl rfl rfl).trans (aP h0 [0] ⟨oe rfl rfl,rfl⟩)) fun k hk=>?_
 refine sq (rl (o1 ?_));refine nl (sq ?_);refine bF rfl (fun h1=>?_) (fun h1=>?_)
 ·refine sk (sq (bl (sq (rl (o1 ?_)))));refine dV (cZ false (aH vs (k))) (vH false (by omega)) ?_
  refine al 1 ?_;refine st ?_;refine nl (rl (o1 ?_));refine ld ?_
  refine iS 2 (vG (y:=(aH vs (k)).1) (Qn.of (p:=(aH vs (k)).2) (hz _ (nP (by omega))))) Et ⟨aC rfl,rfl⟩ ?_
  refine bs 4 ?_;refine iA (j:=5) aF rfl rfl rfl rfl (.sl rfl (by rw[vI,eJ,Nat.min_eq_left hk])) (.sl rfl rfl rfl) rfl rfl rfl (by omega) (by omega) ?_
  refine o1 ?_;refine nl (rl (o1 ?_));refine bB 20 (k+1) ?_
  refine o1 ?_;refine nl ?_;have hst:qT (vs.take (k+1))=qT (vs.take k++[((aH vs k).1,(aH vs k).2)]):=by rw[lY (by omega)]
  exact⟨k+1,by omega,by omega,(RC (j:=5) (k1:=2) (k2:=3) (us:=vs.take k) rfl rfl rfl rfl rfl rfl).trans (aP h0 [5] ⟨aB (congrArg (fun l=>some (⟨102,5,l⟩:Ob)) hst.symm),rfl⟩)⟩
 refine ex (sq (rl (o1 ?_)));refine o1 ?_;refine nl (rt ?_);have hkk:vs.take k=vs:=fF (by omega)
 have hkn:k=vs.length:=by omega
 exact en (.inl rfl) rfl (bD (.one (.sl (trs:=(vs.take k).flatMap (cZ true)) rfl rfl (by rw[fF (by rw[vI,eJ];omega)];rfl) (by rw[bL,eJ,Nat.min_eq_left hk])))) (by decide) (fun _=>by rw[hkk];exact .inl ⟨rfl,Ts vs⟩) (by rw[hkk,hkn];rfl)
theorem Zw {vs:List (Int×Rat)}{rest:List Tr}(hz:∀x∈vs,Sz 68719476736 x.2) (hl:vs.length≤1073741823):aE true Tryz.prog 40 [] [.one (.ef (sV 102 false vs::rest) 0)] (aT (.one (.t (sO 102 vs)))):=by
 refine bV Tryz.func40 rfl Tryz.ntmps40 rfl aF rfl fun N w c0 h0=>?_
 refine sq (rl (o1 ?_));refine nl (sq (sq (rl (o1 ?_))));refine o1 ?_;refine nl (dW rfl (sk (sq (rl ?_))))
 (iterate 3 refine o1 ?_);refine iS 0 (Zu hz hl) RD ⟨sS rfl .ef,rfl⟩ ?_;refine o1 ?_;refine nl (rt ?_)
 exact en (.inl rfl) rfl (bD (.one (.sl (trs:=vs.flatMap (cZ true)) rfl rfl (aN _ _ (bL true vs)) (bL true vs)))) (by decide) (fun _=>MJ _ _) rfl
theorem WF:aE true Tryz.prog 38 [] [] (aT (.one (.t (.p true 137 [sR 102 [],.v (.int .i64 0),.v (.bool false)])))):=by
 refine bV Tryz.func38 rfl Tryz.ntmps38 rfl aF rfl fun N w c0 h0=>?_
 refine sq (rl (o1 ?_));refine nl (sq (rl (o1 ?_)));refine bx 0 ?_
 refine WL.sub ((sT (j:=0) (key:=1) (e:=102) (z:=5) rfl rfl rfl (.sl (.id (.id .nil)))).trans (iJ (j:=0) (k:=1) (p:=0) (n:=0) (trs:=[]) rfl rfl rfl rfl rfl rfl rfl rfl)) ?_
 refine o1 ?_;refine nl (rt ?_)
 exact en (.inl rfl) rfl (bD (.one (.pt (k:=0) (trs:=[sR 102 [],.v (.int .i64 0),.v (.bool false)]) rfl))) (by decide) (fun _=>⟨rfl,.inl ⟨rfl,trivial⟩,trivial,trivial,trivial⟩) rfl
theorem Ci {vs:List (Int×Rat)}{dl:Int×Rat→Bool}{fd:FuncId}{fst caps:List Tr}(hok:CallOk Tryz.prog fd) (hd:∀x∈vs,aE true Tryz.prog fd [] (dE fst++[.agg ((cZ false x).map .t)]++dE caps) (aT (.one (tv (.bool (dl x)))))) (hl:vs.length≤1073741823):aE true Tryz.prog 149 [] [.one (.t (sV 102 false vs)),.one (.t (.f fd fst caps))] (aT (.one (tv (.int .i64 (if kN dl vs=vs.length then-1 else(kN dl vs:Int)))))):=by
 refine bV Tryz.func149 rfl Tryz.ntmps149 rfl aF rfl fun N w c0 h0=>?_
 refine sq (rl (o1 ?_));refine nl (sq (sq (rl ?_)));(iterate 3 refine o1 ?_);refine nl (bl ?_)
 refine lp (γ:=Nat) (fun k=>bP [(0,.one (.t (sV 102 false vs))),(1,.one (.t (.f fd fst caps))),(7,iN vs.length),(8,iN k)]) (fun k=>[].map some) (fun k=>k≤vs.length∧k≤kN dl vs) (fun k=>vs.length-k) 0 (⟨Nat.zero_le _,Nat.zero_le _⟩) (aP h0 [] rfl) fun k hk=>?_
 refine sq (rl (o1 ?_));refine nl (sq ?_);refine bF rfl (fun h1=>?_) (fun h1=>?_)
 ·refine sk (sq (bl (sq (rl (o1 ?_)))));refine o1 ?_;refine nl (sq (rl ?_));(iterate 4 refine o1 ?_)
  refine dV (cZ false (aH vs (k))) (vH false (by omega)) ?_
  refine ce 0 [.agg ((cZ false (aH vs k)).map .t)] rfl (hd (aH vs k) (nP (by omega))) hok ⟨rfl,rfl⟩ ?_
  refine nl ?_;refine qR rfl (fun h2=>?_) (fun h2=>?_)
  ·refine sq (rl (o1 ?_));refine o1 ?_;refine nl (rt ?_);have hx9:=(wX hk.2 (by omega)).1 h2
   exact en (.inl rfl) rfl (bD (cX _)) (by decide) (fun _=>trivial) (congrArg (fun z=>FV.one (tv (.int .i64 z))) (by rw[hx9,if_neg (by omega)]))
  refine sk (rl (o1 ?_));refine bB 18 (k+1) ?_
  refine o1 ?_;refine nl ?_;exact⟨k+1,by omega,⟨by omega,(wX hk.2 (by omega)).2 h2⟩,aP h0 [] rfl⟩
 refine ex (sq (rl (o1 ?_)));refine nl (rt ?_);have hx9:=Ny (dl:=dl) vs
 exact en (.inl rfl) rfl (bD (cX _)) (by decide) (fun _=>trivial) (congrArg (fun z=>FV.one (tv (.int .i64 z))) (by rw[if_pos (by omega)]))
theorem Sb {vs:List (Int×Rat)}{dl:Int×Rat→Bool}{fd:FuncId}{fst caps:List Tr}(hok:CallOk Tryz.prog fd) (hd:∀x∈vs,aE true Tryz.prog fd [] (dE fst++[.agg ((cZ false x).map .t)]++dE caps) (aT (.one (tv (.bool (dl x)))))) (hl:vs.length≤1073741823) (hix:kN dl vs<vs.length):aE true Tryz.prog 149 [] [.one (.t (sV 102 false vs)),.one (.t (.f fd fst caps))] (aT (.one (tv (.int .i64 ((kN dl vs:Nat):Int))))):=by
 have h9:=Ci hok hd hl
 rwa[if_neg (by omega)]at h9
theorem Nz {vs:List (Int×Rat)}{dl:Int×Rat→Bool}{fd:FuncId}{fst caps:List Tr}(hok:CallOk Tryz.prog fd) (hd:∀x∈vs,aE true Tryz.prog fd [] (dE fst++[.agg ((cZ false x).map .t)]++dE caps) (aT (.one (tv (.bool (dl x)))))) (hl:vs.length≤1073741823) (hix:kN dl vs=vs.length):aE true Tryz.prog 149 [] [.one (.t (sV 102 false vs)),.one (.t (.f fd fst caps))] (aT (.one (tv (.int .i64 (-1))))):=by
 have h9:=Ci hok hd hl
 rwa[if_pos hix]at h9
theorem Oa {vs:List (Int×Rat)}{dl:Int×Rat→Bool}{fd:FuncId}{fst caps:List Tr}(hok:CallOk Tryz.prog fd) (hd:∀x∈vs,aE true Tryz.prog fd [] (dE fst++[.agg ((cZ false x).map .t)]++dE caps) (aT (.one (tv (.bool (dl x)))))) (hl:vs.length≤1073741823):aE false Tryz.prog 131 [⟨102,5,eL vs⟩] [.one (.sl 0 0 vs.length),.one (.t (.f fd fst caps))] (Rt [⟨102,5,(oT vs (eS dl vs)).map .t⟩] (.one (.sl 0 0 (eS dl vs).length))):=by
 refine qS Tryz.func131 rfl Tryz.ntmps131 rfl aF rfl fun N M w c0 h0=>?_
 have hix0:=Ny (dl:=dl) vs
 rcases Nat.lt_or_ge (kN dl vs) vs.length with hix | hix
 ·refine sq (rl (o1 ?_));refine nl (sq (rl (o1 ?_)));refine o1 ?_
  refine ca (Sb hok hd hl hix) JU ⟨sS rfl (.sl rfl rfl (aN _ _ rfl) (bL false vs)),a1 rfl,rfl⟩ (.one (tv (.int .i64 ((kN dl vs:Nat):Int)))) ?_;refine o1 ?_
  refine nl (sq (sq (rl (o1 ?_))));refine o1 ?_;refine nl ?_;refine bF rfl (fun h1=>?_) (fun h1=>?_)
  ·exact absurd h1 (by omega)
  refine sk (sq (sq (rl (o1 ?_))));refine o1 ?_;refine bB 15 (kN dl vs+1) ?_
  refine o1 ?_;refine nl (bl ?_)
  refine lp (γ:=Nat×Nat×List (Int×Rat)) (fun s=>bP [(0,.one (.sl 0 0 vs.length)),(1,.one (.t (.f fd fst caps))),(5,iN s.1),(6,iN s.2.1)]) (fun s=>[({t:=102,z:=5,l:=eL s.2.2}:Ob)].map some) (fun s=>s.1≤s.2.1∧s.2.1≤vs.length∧s.2.2.length=vs.length∧s.2.2.take s.1=(vs.take s.2.1).filter (fun x=> !dl x)∧∀m,s.2.1≤m→aH s.2.2 m=aH vs m) (fun s=>vs.length-s.2.1) (kN dl vs,kN dl vs+1,vs) ⟨by dsimp only;omega,by dsimp only;omega,rfl,Zx hix,fun _ _=>rfl⟩ (fQ h0 [0] ⟨aB rfl,rfl⟩) ?_
  rintro⟨i,j,us⟩ ⟨hij,hj,hul,hpre,hsuf⟩;dsimp only at hij hj hul hpre hsuf⊢;refine sq (sq (rl ?_));(iterate 4 refine o1 ?_);refine nl ?_
  refine bF rfl (fun h2=>?_) (fun h2=>?_)
  ·refine sk (sq (bl (sq ?_)));have hsj:aH us j=aH vs j:=hsuf j (bC _)
   refine rl ?_;(iterate 3 refine o1 ?_);refine Oc (Eu (us:=us) (k:=j) (by omega)) ?_
   refine al 1 ?_;refine st ?_;refine nl (sq (rl (o1 ?_)));refine ld ?_
   refine ce 2 [.agg ((cZ false (aH us j)).map .t)] rfl (hd (aH us j) (by rw[hsj];exact nP (by omega))) hok ⟨rfl,rfl⟩ ?_
   refine WL.splitb (t:=28) rfl (fun h3=>?_) (fun h3=>?_)
   ·refine o1 ?_;refine nl (dW rfl (sk (rl (o1 ?_))));refine o1 ?_
    refine bB 21 (j+1) ?_
    refine o1 ?_;refine nl ?_
    exact⟨(i,j+1,us),by dsimp only;omega,⟨by dsimp only;omega,by dsimp only;omega,hul,by dsimp only;exact FA hpre (by omega) (by rw[←hsj];exact h3),fun m hm=>hsuf m (by dsimp only at hm;omega)⟩,fQ h0 [0] ⟨aB rfl,rfl⟩⟩
   refine o1 ?_;refine nl (iC rfl (sq (rl (o1 ?_))));refine o1 ?_;refine ld ?_;refine o1 ?_
   refine tU (JV (us:=us) (k:=i) (x:=((aH us (j)).1,(aH us (j)).2)) (by omega)) (RE (us:=us) (k:=i) (by omega)) ?_
   refine nl (rl (o1 ?_));refine o1 ?_;refine bB 35 (i+1) ?_
   refine o1 ?_;refine nl (rl (o1 ?_));refine o1 ?_;refine bB 21 (j+1) ?_
   refine o1 ?_;refine nl ?_
   exact⟨(i+1,j+1,us.set i (aH us j)),by dsimp only;omega,⟨by dsimp only;omega,by dsimp only;omega,by dsimp only;rw[List.length_set];exact hul,by dsimp only;rw[hsj];exact FB hpre (by omega) (by rw[←hsj];exact h3) (by omega),fun m hm=>by dsimp only at hm⊢;rw[RF (by omega)];exact hsuf m (by omega)⟩,fQ h0 [0] ⟨aB rfl,rfl⟩⟩
  refine ex (sq (rl ?_));(iterate 3 refine o1 ?_);have hF:us.take i=eS dl vs:=by rw[hpre,fF (by omega)];rfl
  refine clear (o:=0+i*5) (n:=vs.length-i) (z:=5) (zz:=.agg zV.toArray) (l:=eL us) (l':=(oT vs (eS dl vs)).map .t) (by rw[mP];omega) ((by rw[←hul]:eT (eL us) (0+i*5) ((iQ zV (vs.length-i)).map tv)=eT (eL us) (0+i*5) ((iQ zV (us.length-i)).map tv)).trans (Zy hul (by omega) hF)) ?_
  refine nl (sq (rl ?_));(iterate 4 refine o1 ?_);refine nl (rt ?_);have hFl:(eS dl vs).length=i:=by rw[←hF,eJ];omega
  exact jS (lent':=[⟨102,5,(oT vs (eS dl vs)).map .t⟩]) (.inl rfl) rfl (bD (.one (.rf rfl rfl))) (by decide) (fun _ h=>by cases h) ⟨⟨rfl,rfl⟩,trivial⟩ ⟨rfl,trivial⟩ ⟨dF _,trivial⟩ (fun h=>by cases h) ⟨rfl,by rw[hFl]⟩
 replace hix:kN dl vs=vs.length:=by omega
 refine sq (rl (o1 ?_));refine nl (sq (rl (o1 ?_)));refine o1 ?_
 refine ca (Nz hok hd hl hix) JU ⟨sS rfl (.sl rfl rfl (aN _ _ rfl) (bL false vs)),a1 rfl,rfl⟩ (.one (tv (.int .i64 (-1)))) ?_;refine o1 ?_;refine nl (sq ?_)
 refine sq (rl (o1 ?_));refine o1 ?_;refine nl ?_;refine bF rfl (fun h4=>?_) (fun h4=>?_)
 ·refine sq (rl (o1 ?_));refine o1 ?_;refine nl (rt ?_)
  exact jS (lent':=[⟨102,5,(oT vs (eS dl vs)).map .t⟩]) (.inl rfl) rfl (bD (.one (.rf rfl rfl))) (by decide) (fun _ h=>by cases h) ⟨⟨rfl,rfl⟩,trivial⟩ ⟨congrArg (fun l=>some (⟨102,5,l⟩:Ob)) (Zz (Od hix)),trivial⟩ ⟨dF _,trivial⟩ (fun h=>by cases h) ⟨rfl,by rw[Od hix]⟩
 exact absurd h4 (by omega)
theorem FC {vs:List (Int×Rat)}(hl:vs.length≤1073741823):aE false Tryz.prog 105 [⟨102,5,eL vs⟩] [.one (.sl 0 0 vs.length)] (Rt [⟨102,5,eL vs⟩] (.one (.t (sR 102 vs)))):=by
 refine qS Tryz.func105 rfl Tryz.ntmps105 rfl aF rfl fun N M w c0 h0=>?_
 refine sq (rl (o1 ?_));refine nl (sq (sq (rl (o1 ?_))));refine nq (fun hn0=>?_) ?_
 ·refine nl (iC rfl (sq (rl (o1 ?_))));refine nl (rt ?_);have hv0:vs=[]:=List.eq_nil_of_length_eq_zero hn0
  exact jS (lent':=[⟨102,5,eL vs⟩]) (.inl rfl) rfl (bD (.one (.nil (t:=102) (z:=5)))) (by decide) (fun _ h=>by cases h) ⟨⟨rfl,rfl⟩,trivial⟩ ⟨rfl,trivial⟩ ⟨dF _,trivial⟩ (fun h=>by cases h) ⟨rfl,by rw[hv0];rfl⟩
 refine nl (dW rfl (sk (sq (rl (bs0 1 ?_)))));refine o1 ?_
 refine iA (j:=2) (n:=0) (m:=vs.length) (news:=eL vs) aF rfl rfl rfl rfl (.sl rfl rfl) (.sl rfl (fF (Nat.le_of_eq (mP vs))) (mP vs)) (ZD vs) (RG vs) rfl (by omega) (by omega) ?_
 refine o1 ?_;refine nl (rt ?_)
 exact jS (lent':=[⟨102,5,eL vs⟩]) (.inl rfl) rfl (bD (.one (.sl (trs:=vs.flatMap (cZ false)) rfl rfl (by rw[List.nil_append,Nat.zero_add];exact fF (Nat.le_of_eq (mP vs))) (by rw[bL,Nat.zero_add])))) (by decide) (by simp) ⟨⟨rfl,rfl⟩,trivial⟩ ⟨rfl,trivial⟩ ⟨dF _,trivial⟩ (fun h=>by cases h) ⟨rfl,by rw[Nat.zero_add];rfl⟩
theorem Au {t0:Nat}{rest:List Tr}{vs:List (Int×Rat)}{dl:Int×Rat→Bool}{fd:FuncId}{fst caps:List Tr}(hok:CallOk Tryz.prog fd) (hd:∀x∈vs,aE true Tryz.prog fd [] (dE fst++[.agg ((cZ false x).map .t)]++dE caps) (aT (.one (tv (.bool (dl x)))))) (hl:vs.length≤1073741823):aE false Tryz.prog 106 [⟨t0,0,.t (sR 102 vs)::rest.map .t⟩] [.one (.pt 0 0),.one (.t (.f fd fst caps))] (Rt [⟨t0,0,.t (sR 102 (eS dl vs))::rest.map .t⟩] (.tup [])):=by
 refine qS Tryz.func106 rfl Tryz.ntmps106 rfl aF rfl fun N M w c0 h0=>?_
 refine WP.sub (oU (j:=0) (key:=1) (p:=0) (e:=102) (z:=5) (n:=vs.length) (trs:=vs.flatMap (cZ false)) rfl rfl rfl rfl rfl) ?_;refine rl ?_;(iterate 4 refine o1 ?_);refine ld ?_
 refine o1 ?_;refine clr [1] (Oa hok hd hl) WG ⟨aB rfl,rfl⟩ ⟨rfl,rfl,rfl⟩ (ok:=[some ⟨102,5,(oT vs (eS dl vs)).map .t⟩]) ⟨aB rfl,rfl⟩ ?_;refine o1 ?_;refine o1 ?_
 refine tU (o:=0) (us:=[.sl 1 0 (eS dl vs).length]) (l:=.sl 1 0 vs.length::rest.map .t) rfl (by simp) ?_
 refine WL.sub (iJ (j:=0) (k:=1) (p:=0) (n:=(eS dl vs).length) (trs:=(eS dl vs).flatMap (cZ false)) rfl rfl rfl rfl rfl (Wu _ _) (bL _ _) rfl) ?_;refine nl ?_
 exact jS (lent':=[⟨t0,0,.t (sR 102 (eS dl vs))::rest.map .t⟩]) (.inr rfl) rfl Ch (by decide) (fun _ h=>by cases h) ⟨⟨rfl,rfl⟩,trivial⟩ ⟨rfl,trivial⟩ ⟨dF (sR _ _::rest),trivial⟩ (fun h=>by cases h) ⟨rfl,rfl⟩
theorem Ew {a:Fr4}{p v:Rat}(ha:Qn a p) (hv:Sz 68719476736 v):aE false Tryz.prog 129 [] [qF (.of v),.one (.t (sQ false [a]))] (aT (qF (.of (aO v [p])))):=by
 have h:=WE (a:=.of v) (xs:=[a]) (Qn.of hv) (fun x hx=>by rw[List.mem_singleton]at hx;rw[hx];exact ha.1) (by simp)
 have e:[a].map Fr4.q=[p]:=by rw[←ha.2];rfl
 rwa[e]at h
theorem RH {t0 i:Nat}{rest:List Tr}{vs:List (Int×Rat)}{a:Fr4}{p:Rat}(ha:Qn a p) (hi:i<vs.length) (hv:Sz 68719476736 (aH vs (i)).2) (hl:vs.length≤1073741823):aE false Tryz.prog 124 [⟨t0,0,.sl 1 0 vs.length::rest.map .t⟩,⟨102,5,eL vs⟩] [.one (.pt 0 0),.one (tv (.int .i64 ((i:Nat):Int))),qF a] (Rt [⟨t0,0,.sl 1 0 vs.length::rest.map .t⟩,⟨102,5,eL (vs.set (i) ((aH vs (i)).1,((aH vs (i)).2-(aO (aH vs (i)).2 [p]))))⟩] (.agg ((cZ false ((aH vs (i)).1,(aO (aH vs (i)).2 [p]))).map .t))):=by
 refine qS Tryz.func124 rfl Tryz.ntmps124 rfl aF rfl fun N M w c0 h0=>?_
 have hn:Sz 68719476736 (aO (aH vs (i)).2 [p]):=pW hv fun q hq=>by rw[List.mem_singleton]at hq;rw[hq];exact ha.sz
 have hix:i<vs.length:=hi
 refine sq (rl (bx 2 ?_));refine al 3 ?_;refine nl (sq (rl ?_));(iterate 3 refine o1 ?_);refine ld ?_;(iterate 3 refine o1 ?_);refine nl ?_
 refine md (γ:=Unit) (fun _=>bP [(6,pN 2),(7,.one (.pt 1 (0+i*5))),(8,pN 3)]) (fun _=>([⟨t0,0,.sl 1 0 vs.length::rest.map .t⟩,⟨102,5,eL vs⟩,⟨102,0,[tv (.int .i64 0),tv (.bool false),tv (.slice none 0 0),tv (.bool false),tv (.slice none 0 0)]⟩,⟨48,0,((Fr4.of (aO (aH vs (i)).2 [p])).tr false).map .t⟩]:List Ob).map some) (fun _=>True) ?_ fun _ _=>?_
 ·refine cI [0,1,2,3] [8] ?_
  refine dv 0 ?_;refine dv 1 ?_;refine dv 2 ?_;refine sP 3 (Ly (us:=vs) (k:=i) (by omega)) ?_
  refine aK 4 ?_;refine eR 5 7 ?_ ?_
  ·refine Hc (key:=4) 5 rfl rfl ⟨rfl,rfl,rfl,rfl,trivial⟩ ?_
   refine qU (i:=20) (k:=4) (t:=48) (t':=52) (z:=4) (n:=1) (l:=[a].flatMap (Fr4.tr false)) rfl rfl rfl rfl (.one .sl) (by rfl) (by rfl) ?_
   refine eR 6 7 ?_ ?_
   ·refine fB 6 rfl (Ew ha hv) oV ⟨aC rfl,a1 rfl,rfl⟩ (qF (.of (aO (aH vs (i)).2 [p]))) ?_;refine fZ 5 7 ?_
    refine dst 8 ?_;refine aW ?_;exact⟨(),trivial,fQ h0 [0,1,3,5] ⟨Tt rfl rfl,aB rfl,oe rfl rfl,aB rfl,rfl⟩⟩
   refine cQ 5 7 ?_;refine aS 6 rfl (Ew ha hv) oV ⟨aC rfl,a1 rfl,rfl⟩ (qF (.of (aO (aH vs (i)).2 [p]))) ?_
   refine dst 8 ?_;refine aW ?_;exact⟨(),trivial,fQ h0 [0,1,3,5] ⟨Tt rfl rfl,aB rfl,oe rfl rfl,aB rfl,rfl⟩⟩
  refine cQ 4 7 ?_;refine iG (key:=5) 5 (by kernel_rfl) rfl rfl aF rfl ⟨rfl,rfl,rfl,rfl,trivial⟩ ?_
  refine qU (i:=20) (k:=5) (t:=48) (t':=52) (z:=4) (n:=1) (l:=[a].flatMap (Fr4.tr false)) rfl rfl rfl rfl (.one .sl) (by rfl) (by rfl) ?_
  refine aS 6 rfl (Ew ha hv) oV ⟨aC rfl,a1 rfl,rfl⟩ (qF (.of (aO (aH vs (i)).2 [p]))) ?_;refine dst 8 ?_;refine aW ?_
  exact⟨(),trivial,fQ h0 [0,1,3,4] ⟨Tt rfl rfl,aB rfl,oe rfl rfl,aB rfl,rfl⟩⟩
 refine sq ?_;refine cI [0,1,2,3] [7,8,9] ?_
 refine dv 0 ?_;refine dv 1 ?_;refine dv 2 ?_;refine dv 3 ?_;refine sP 4 (Ly (us:=vs) (k:=i) (by omega)) ?_
 refine aK 5 ?_
 refine aS 6 rfl (wY (Qn.of (p:=(aH vs (i)).2) hv) (Qn.of (p:=(aO (aH vs (i)).2 [p])) hn)) Dk ⟨aC rfl,aC rfl,rfl⟩ (qF (.of ((aH vs (i)).2-(aO (aH vs (i)).2 [p])))) ?_
 refine dI 7 ?_
 refine dI 8 ?_
 refine uP 9 (JW (us:=vs) (k:=i) (q:=((aH vs (i)).2-(aO (aH vs (i)).2 [p]))) (by omega)) (Tu (us:=vs) (k:=i) (by omega)) ?_
 refine aW ?_;refine sq ?_;refine cI [0,1,2,3] [6] ?_
 refine dv 0 ?_;refine dv 1 ?_;refine dv 2 ?_
 refine Oe 3 (Ww (us:=(vs.set (i) ((aH vs (i)).1,((aH vs (i)).2-(aO (aH vs (i)).2 [p]))))) (k:=i) (by rw[List.length_set];omega)) ?_
 refine aK 4 ?_;refine dv 5 ?_;refine dst 6 ?_;refine aW ?_;refine rt ?_
 exact jS (lent':=[⟨t0,0,.sl 1 0 vs.length::rest.map .t⟩,⟨102,5,eL (vs.set (i) ((aH vs (i)).1,((aH vs (i)).2-(aO (aH vs (i)).2 [p]))))⟩]) (.inl rfl) rfl (bD (.agg (.cons (.id rfl) (.cons (.id rfl) (.cons (.id rfl) (.cons (.id rfl) (.cons (.id rfl) .nil))))))) (by decide) (fun _ h=>by cases h) ⟨⟨rfl,rfl⟩,⟨rfl,rfl⟩,trivial⟩ ⟨rfl,rfl,trivial⟩ ⟨dF rest,dF _,trivial⟩ (fun h=>by cases h) ⟨rfl,by rw[Dl hi];rfl⟩
def tV (x:Int×Rat):Bool:=oO x.1 x.2
theorem AA {y:Int}{q:Rat}(hs:Sz 68719476736 q):aE true Tryz.prog 125 [] [.agg ((cZ false (y,q)).map .t)] (aT (.one (tv (.bool (tV (y,q)))))):=by
 refine bV Tryz.func125 rfl Tryz.ntmps125 rfl aF rfl fun N w c0 h0=>?_
 refine sq (rl (bx 0 ?_));refine o1 ?_;refine nl (sq (rl (o1 ?_)));refine ld ?_
 refine ca (iZ (Qn.of (p:=q) hs)) mU ⟨aC rfl,rfl⟩ (.one (tv (.int .i64 q.num.sign))) ?_;refine o1 ?_;refine o1 ?_;refine nl (rt ?_)
 exact en (.inl rfl) rfl (bD (cX _)) (by decide) (fun _=>trivial) rfl
theorem Of {t0 i:Nat}{rest:List Tr}{us vs:List (Int×Rat)}{x:Int×Rat}{a:Fr4}{p:Rat}(ha:Qn a p) (hnx:aH us i=x) (hi:i<us.length) (hul:us.length=vs.length) (hv:Sz 68719476736 x.2) (hl:vs.length≤1073741823):aE false Tryz.prog 124 [⟨t0,0,.sl 1 0 vs.length::rest.map .t⟩,⟨102,5,eL us⟩] [.one (.pt 0 0),.one (tv (.int .i64 ((i:Nat):Int))),qF a] (Rt [⟨t0,0,.sl 1 0 vs.length::rest.map .t⟩,⟨102,5,eL (us.set i (x.1,x.2-aO x.2 [p]))⟩] (.agg ((cZ false (x.1,aO x.2 [p])).map .t))):=by
 subst hnx
 rw[←hul]
 exact RH ha hi hv (by omega)
end Go.Proofs.YtbbabfkgdnkehaaGreat
