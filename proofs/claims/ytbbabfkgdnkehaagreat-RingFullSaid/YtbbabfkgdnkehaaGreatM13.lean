/- Part 13 of a proof: Vj to C1. -/
import Derived.Test.YtbbabfkgdnkehaaGreatM12
import Derived.Test.YtbbabfkgdnkehaaGreatM8
import Derived.Test.YtbbabfkgdnkehaaGreatM11
set_option maxRecDepth 100000
set_option linter.unusedVariables false
set_option linter.unusedSimpArgs false
namespace Go.Proofs.YtbbabfkgdnkehaaGreat
open Go Go.RowKit
def Rg.vlk (R:Rg) (t e:Nat):List (Nat×Nat):=R.vl t++((List.range e).filter (R.isV t)).map fun e=>(t,e)
def Rg.own1 (R:Rg) (U:List Ur) (t k:Nat):List (List (Int×Rat)×Int×Bool):=(List.range R.E).map fun e=>if e<k then(R.wl U e (R.I t++[t]),(R.lp e (t+1)).1,(R.lp e (t+1)).2)else(R.wl U e (R.I t),(R.lp e t).1,(R.lp e t).2)
def Rg.own2 (R:Rg) (U:List Ur) (t k:Nat):List (List (Int×Rat)×Int×Bool):=(List.range R.E).map fun e=>if e<k then(R.wl U e (R.I (t+1)),(R.lp e (t+1)).1,(R.lp e (t+1)).2)else(R.wl U e (R.I t++[t]),(R.lp e (t+1)).1,(R.lp e (t+1)).2)
def Rg.ex (R:Rg) (U:List Ur) (k y e:Nat):Rat:=if y+R.f<k then R.left U y e else 0
def Rg.exk (R:Rg) (U:List Ur) (t e:Nat) (b:Bool) (y e':Nat):Rat:=if e'<e∨(e'=e∧b=true)then R.ex U (t+1) y e' else R.ex U t y e'
section
variable {R:Rg}{U:List Ur}{N y e e' t k:Nat}{p:Ur→Bool}
open Rg
theorem nB (h:∀u∈U,p u=false):jB U p=0:=by
 unfold jB
 rw[List.filter_eq_nil_iff.2 fun u hu=>by rw[h u hu];simp]
 rfl
theorem Cm {u:Ur}(h:u∈R.use U y e t):u∈U∨(u.v=y∧u.e=e∧u.y=t):=by
 unfold Rg.use Rg.us at h
 split at h
 ·rcases List.mem_append.1 h with h | h
  ·exact .inl h
  rw[List.mem_singleton]at h
  subst h
  exact .inr ⟨rfl,rfl,rfl⟩
 exact .inl h
theorem yS {u:Ur}:∀(L:List (Nat×Nat)) (V:List Ur),u∈L.foldl (fun U p=>R.use U p.1 p.2 t) V→u∈V∨∃p∈L,u.v=(p.1:Int)∧u.e=(p.2:Int)∧u.y=t
 | [],V,h=>.inl h
 | p::L,V,h=>by
  rw[List.foldl_cons]at h
  rcases yS L _ h with h | ⟨q,hq,h⟩
  ·rcases Cm h with h | h
   ·exact .inl h
   exact .inr ⟨p,List.mem_cons_self ..,h⟩
  exact .inr ⟨q,List.mem_cons_of_mem _ hq,h⟩
theorem pE {u:Ur}:∀{k:Nat},u∈R.run k→∃y e t:Nat,u.v=y∧u.e=e∧u.y=t∧y<t∧t<k∧R.may t (y,e)=true∧e<R.E
 | 0,h=>by cases h
 | k+1,h=>by
  rcases yS _ _ h with h | ⟨p,hp,h1,h2,h3⟩
  ·obtain⟨y,e,t,h1,h2,h3,h4,h5,h6⟩:=pE (k:=k) h
   exact⟨y,e,t,h1,h2,h3,h4,by omega,h6⟩
  rw[List.mem_filter,fM]at hp
  exact⟨p.1,p.2,k,h1,h2,h3,hp.1.1,by omega,hp.2,hp.1.2.1⟩
theorem Ml (h:k≤y+1):fS (R.run k) y e=0:=nB fun u hu=>by
 obtain⟨y',e',t',h1,h2,h3,h4,h5,_⟩:=pE hu
 have:decide (u.v=(y:Int))=false:=decide_eq_false (by omega)
 simp[this]
theorem Hz (h:k≤y+1):R.left (R.run k) y e=R.los y e:=by
 unfold Rg.left
 rw[Ml h]
 grind
theorem EZ (h:k≤y):dR (R.run k) y=0:=nB fun u hu=>by
 obtain⟨y',e',t',h1,h2,h3,h4,h5,_⟩:=pE hu
 exact decide_eq_false (by omega)
theorem FA {e:Int}(h:k≤y):dS (R.run k) y e=0:=nB fun u hu=>by
 obtain⟨y',e',t',h1,h2,h3,h4,h5,_⟩:=pE hu
 have:decide (u.y=(y:Int))=false:=decide_eq_false (by omega)
 simp[this]
theorem Tg (h:R.may t (y,e)=false):R.left (R.step U t) y e=R.left U y e:=by
 unfold Rg.step
 exact oW (p:=(y,e)) _ _ fun hm=>by
  have:=(List.mem_filter.1 hm).2
  rw[h]at this
  cases this
theorem Yc:R.ex (R.step U t) t=R.ex U t:=by
 funext y e
 unfold Rg.ex
 by_cases h:y+R.f<t
 ·rw[if_pos h,if_pos h]
  refine Tg ?_
  unfold Rg.may
  have:decide (t≤y+R.f)=false:=decide_eq_false (by omega)
  simp[this]
 rw[if_neg h,if_neg h]
theorem KT (h:t≤y):R.ex U t y e=0:=if_neg (by omega)
theorem CD:∀{t:Nat},(R.lp e t).2=true→(R.lp e t).1<(t:Int)
 | 0,h=>by cases h
 | t+1,h=>by
  unfold Rg.lp at h⊢
  cases hv:R.isV t e
  ·rw[hv]at h
   have:=CD (t:=t) h
   show(R.lp e t).1<_
   omega
  show(t:Int)<_
  omega
theorem Yd:R.vlk t 0=R.vl t:=by simp[Rg.vlk]
theorem FB:R.vlk t R.E=R.vl (t+1):=rfl
theorem FC (h:R.isV t e=true):R.vlk t (e+1)=R.vlk t e++[(t,e)]:=by
 unfold Rg.vlk
 rw[List.range_succ,List.filter_append,List.filter_cons_of_pos h]
 simp
theorem KU (h:R.isV t e=false):R.vlk t (e+1)=R.vlk t e:=by
 unfold Rg.vlk
 rw[List.range_succ,List.filter_append,List.filter_cons_of_neg (by simp[h])]
 simp
theorem Th:R.own1 U t 0=R.own U (R.I t) t:=by
 unfold Rg.own1 Rg.own
 exact List.map_congr_left fun e _=>if_neg (by omega)
theorem Ye:R.own1 U t R.E=R.own2 U t 0:=by
 unfold Rg.own1 Rg.own2
 exact List.map_congr_left fun e he=>by rw[if_pos (List.mem_range.1 he),if_neg (by omega)]
theorem Yf:R.own2 U t R.E=R.own U (R.I (t+1)) (t+1):=by
 unfold Rg.own2 Rg.own
 exact List.map_congr_left fun e he=>if_pos (List.mem_range.1 he)
theorem Ia (he:e<R.E):cX (R.own1 U t e) e=(R.wl U e (R.I t),(R.lp e t).1,(R.lp e t).2):=by
 have h:=pD (f:=fun e'=>if e'<e then(R.wl U e' (R.I t++[t]),(R.lp e' (t+1)).1,(R.lp e' (t+1)).2)else(R.wl U e' (R.I t),(R.lp e' t).1,(R.lp e' t).2)) (d:=([],0,false)) he
 rw[if_neg (by omega)]at h
 exact h
theorem Yg (he:e<R.E):cX (R.own2 U t e) e=(R.wl U e (R.I t++[t]),(R.lp e (t+1)).1,(R.lp e (t+1)).2):=by
 have h:=pD (f:=fun e'=>if e'<e then(R.wl U e' (R.I (t+1)),(R.lp e' (t+1)).1,(R.lp e' (t+1)).2)else(R.wl U e' (R.I t++[t]),(R.lp e' (t+1)).1,(R.lp e' (t+1)).2)) (d:=([],0,false)) he
 rw[if_neg (by omega)]at h
 exact h
theorem gO:(R.own1 U t k).length=R.E:=by simp[Rg.own1]
theorem yT:(R.own2 U t k).length=R.E:=by simp[Rg.own2]
theorem Ib (he:e<R.E):(R.own1 U t e).set e (R.wl U e (R.I t++[t]),(R.lp e (t+1)).1,(R.lp e (t+1)).2)=R.own1 U t (e+1):=by
 have h:=xD (f:=fun e'=>if e'<e then(R.wl U e' (R.I t++[t]),(R.lp e' (t+1)).1,(R.lp e' (t+1)).2)else(R.wl U e' (R.I t),(R.lp e' t).1,(R.lp e' t).2)) (g:=fun e'=>if e'<e+1 then(R.wl U e' (R.I t++[t]),(R.lp e' (t+1)).1,(R.lp e' (t+1)).2)else(R.wl U e' (R.I t),(R.lp e' t).1,(R.lp e' t).2)) he fun z _ hne=>by
  by_cases h:z<e
  ·rw[if_pos h,if_pos (by omega)]
  rw[if_neg h,if_neg (by omega)]
 rw[if_pos (by omega)]at h
 exact h
theorem Yh (he:e<R.E):(R.own2 U t e).set e (R.wl U e (R.I (t+1)),(R.lp e (t+1)).1,(R.lp e (t+1)).2)=R.own2 U t (e+1):=by
 have h:=xD (f:=fun e'=>if e'<e then(R.wl U e' (R.I (t+1)),(R.lp e' (t+1)).1,(R.lp e' (t+1)).2)else(R.wl U e' (R.I t++[t]),(R.lp e' (t+1)).1,(R.lp e' (t+1)).2)) (g:=fun e'=>if e'<e+1 then(R.wl U e' (R.I (t+1)),(R.lp e' (t+1)).1,(R.lp e' (t+1)).2)else(R.wl U e' (R.I t++[t]),(R.lp e' (t+1)).1,(R.lp e' (t+1)).2)) he fun z _ hne=>by
  by_cases h:z<e
  ·rw[if_pos h,if_pos (by omega)]
  rw[if_neg h,if_neg (by omega)]
 rw[if_pos (by omega)]at h
 exact h
theorem Ti:R.wl U e (R.I t++[t])=R.wl U e (R.I t)++if 0<R.left U t e then [((t:Int),R.left U t e)]else []:=by
 rw[FD]
 congr 1
 by_cases h:0<R.left U t e
 ·rw[iV h,if_pos h]
  rfl
 rw[kV h,if_neg h]
 rfl
theorem FE (he:e<R.E) (h0:∀e,R.left U t e=R.los t e) (hv:R.isV t e=false):R.own1 U t (e+1)=R.own1 U t e:=by
 rw[←Ib he]
 have h1:R.wl U e (R.I t++[t])=R.wl U e (R.I t):=by rw[Ti,h0,Am hv,if_neg (by grind),List.append_nil]
 have h2:R.lp e (t+1)=R.lp e t:=by
  show(bif R.isV t e then _ else _)=_
  rw[hv]
  rfl
 rw[h1,h2,←Ia he]
 apply List.ext_getElem?
 intro i
 rw[List.getElem?_set]
 split
 ·rename_i hi
  subst hi
  rw[if_pos (by rw[gO];exact he),Ea (by rw[gO];exact he)]
 rfl
theorem KV (hv:R.isV t e=true):R.lp e (t+1)=((t:Int),true):=by
 show(bif R.isV t e then _ else _)=_
 rw[hv]
 rfl
theorem Yi:R.exk U t 0 false=R.ex U t:=by
 funext y e
 exact if_neg (by simp)
theorem Ic:R.exk U t e true=R.exk U t (e+1) false:=by
 funext y e'
 unfold Rg.exk
 by_cases h:e'<e∨e'=e
 ·rw[if_pos (by simpa using h),if_pos (.inl (by omega))]
 rw[if_neg (by simpa using h),if_neg (by simp;omega)]
theorem FF (he:e<R.E):R.exk U t R.E false y e=R.ex U (t+1) y e:=if_pos (.inl he)
theorem Yj (hI:R.Iv N U) (ht:t<N) (he:e<R.E) (hE:R.wl U e (R.J t)=[]):R.exk U t e false=R.exk U t e true:=by
 funext y e'
 unfold Rg.exk
 by_cases h:e'<e
 ·rw[if_pos (.inl h),if_pos (.inl h)]
 by_cases h2:e'=e
 ·subst h2
  rw[if_neg (by simp),if_pos (by simp)]
  unfold Rg.ex
  by_cases h3:y+R.f<t
  ·rw[if_pos h3,if_pos (by omega)]
  rw[if_neg h3]
  by_cases h4:y+R.f<t+1
  ·rw[if_pos h4]
   have hy:y∈R.J t:=Id.2 (by omega)
   have h5:=(hI.v y e' (by omega) he).1.1
   have h6:¬0<R.left U y e':=fun h7=>by
    have:=iG.2 ⟨y,hy,rfl,h7⟩
    rw[hE]at this
    cases this
   grind
  rw[if_neg h4]
 rw[if_neg (by simp;omega),if_neg (by simp;omega)]
theorem Mm:(R.wl U e (R.J t)).length≤1:=by
 have h1:∀x∈R.wl U e (R.J t),x.1=(t:Int)-(R.f:Int):=fun x hx=>by
  obtain⟨i,hi,rfl,_⟩:=iG.1 hx
  have:=Id.1 hi
  dsimp only
  omega
 have h2:(R.J t).Pairwise (· < ·):=by
  unfold Rg.J
  refine List.Pairwise.filter _ (List.pairwise_append.2 ⟨Pw,List.pairwise_singleton _ _,fun a ha b hb=>?_⟩)
  have:=jM.1 ha
  rw[List.mem_singleton]at hb
  omega
 have h3:=Mn (R:=R) (U:=U) (e:=e) h2
 generalize R.wl U e (R.J t)=L at h1 h3
 match L,h1,h3 with
 | [],_,_=>exact Nat.zero_le _
 | [x],_,_=>exact Nat.le_refl _
 | x::y::L,h1,h3=>
  have h4:=(List.pairwise_cons.1 h3).1 y (List.mem_cons_self ..)
  have h5:=h1 x (List.mem_cons_self ..)
  have h6:=h1 y (List.mem_cons_of_mem _ (List.mem_cons_self ..))
  omega
end
theorem yU (q:Rat):q.num.sign<0↔q<0:=by
 rw[Int.sign_neg_iff]
 have:=Rat.num_nonneg (q:=q)
 constructor
 ·intro h
  rcases Rat.le_total (a:=0) (b:=q)with h1 | h1
  ·have:=this.2 h1;omega
  rcases Rat.le_iff_lt_or_eq.1 h1 with h2 | h2
  ·exact h2
  rw[h2]at h;cases h
 intro h
 rcases Int.lt_or_le q.num 0 with h1 | h1
 ·exact h1
 have:=this.1 h1;grind
theorem Yk {q:Rat}{y last:Int}{put:Bool}(h0:0≤q) (hl:put=true→last<y):dW (bQ (Fr4.of q).s (Fr4.of q).x (Fr4.of q).t (Fr4.of q).y) q y last put=0:=by
 have h1:bQ (Fr4.of q).s (Fr4.of q).x (Fr4.of q).t (Fr4.of q).y=true:=Ef q
 have h2:¬q.num.sign<0:=by
  have:=Rat.num_nonneg.2 h0
  rw[Int.not_lt]
  exact Int.sign_nonneg_iff.2 this
 unfold dW
 rw[h1,if_neg (by simp),if_neg (by simp[h2])]
 cases put with
 | false=>rfl
 | true=>rw[if_neg (by have:=hl rfl;simp;omega)]
theorem Yl {q:Rat}{y:Int}{vs:List (Int×Rat)}:jQ 0 q y vs=vs++(if 0<q then [(y,q)]else []):=by
 unfold jQ
 rw[if_pos rfl]
 by_cases h:0<q
 ·rw[if_pos (decide_eq_true ((kJ q).2 h)),if_pos h]
 rw[if_neg (by simpa using fun h9=>h ((kJ q).1 h9)),if_neg h,List.append_nil]
theorem KW {vs:List (Int×Rat)}{last y:Int}{put:Bool}{q:Rat}(hs:Sz 68719476736 q) (h0:0≤q) (hp:put=true→last<y) (hl:vs.length≤1073741822):aD false Tryz.prog 71 [⟨137,0,[.t (sR 102 vs),tv (.int .i64 last),tv (.bool put)]⟩] [.one (.pt 0 0),.one (tv (.int .i64 y)),qF (.of q)] (Rt [⟨137,0,[.t (sR 102 (vs++if 0<q then [(y,q)]else [])),tv (.int .i64 y),tv (.bool true)]⟩] (.one (tv (.int .i64 0)))):=by
 have h:=PO (last:=last) (y:=y) (put:=put) (Qn.of hs) hl
 rw[Yk h0 hp,Yl]at h
 exact h
theorem FG (xs:List Vn) (x:Vn):(xs.flatMap (eE false)).map AV.t++(eE false x).map .t=((xs++[x]).flatMap (eE false)).map .t:=by simp[List.flatMap_append]
theorem Ym {R:Rg}{U:List Ur}{x c:Nat→Nat→Rat}{L:List (Nat×Nat)}{p:Nat×Nat}:R.vns U x c L++[R.vn U x c p]=R.vns U x c (L++[p]):=by simp[Rg.vns]
theorem FH {R:Rg}{t e:Nat}(h:R.E≤6) (he:e≤R.E):(R.vlk t e).length≤6*t+6:=by
 unfold Rg.vlk
 have h1:=qA (R:=R) h t
 have h2:=List.length_filter_le (R.isV t) (List.range e)
 rw[List.length_range]at h2
 rw[List.length_append,List.length_map]
 omega
theorem Ie {R:Rg}{N k:Nat}(h:R.Ok N) (hk:k≤N):(R.run k).length≤1000:=by
 have gen:∀k:Nat,k≤10→(R.run k).length≤60*k:=by
  intro k
  induction k with
  | zero=>intro _;exact Nat.le_refl _
  | succ k ih=>
   intro hk
   have h1:=ih (by omega)
   have h2:∀(L:List (Nat×Nat)) (V:List Ur),(L.foldl (fun U p=>R.use U p.1 p.2 k) V).length≤V.length+L.length:=by
    intro L
    induction L with
    | nil=>intro V;simp
    | cons q L ih2=>
     intro V
     have h1:=ih2 (R.use V q.1 q.2 k)
     have h2:(R.use V q.1 q.2 k).length≤V.length+1:=Mi
     rw[List.foldl_cons,List.length_cons]
     omega
   have h3:=h2 ((R.vl k).filter (R.may k)) (R.run k)
   have h4:=List.length_filter_le (R.may k) (R.vl k)
   have h5:=qA (R:=R) h.e k
   show(R.step (R.run k) k).length≤_
   unfold Rg.step
   omega
 have h1:=h.n
 have:=gen k (by omega)
 omega
theorem KX {R:Rg}{N t:Nat}(hOk:R.Ok N) (ht:t<N):aD false Tryz.prog 39 [⟨95,0,[.t (dA true (R.rls (R.run t) t)),.t (cU true false (R.vns (R.run t) (R.ex (R.run t) t) (fun _ _=>(0:Rat)) (R.vl t))),.t (cI true false (R.run t)),.t (dL (R.own (R.run t) (R.I t) t))]⟩] [.one (.pt 0 0),.one (tv (.int .i64 ((R.f:Nat):Int))),.one (tv (.int .i64 ((t:Nat):Int))),.agg ((R.yrq t).map .t)] (Rt [⟨95,0,[.t (dA true (R.rls (R.run (t+1)) (t+1))),.t (cU true false (R.vns (R.run (t+1)) (R.ex (R.run (t+1)) (t+1)) (fun _ _=>(0:Rat)) (R.vl (t+1)))),.t (cI true false (R.run (t+1))),.t (dL (R.own (R.run (t+1)) (R.I (t+1)) (t+1)))]⟩] (.tup [])):=by
 refine Pv Tryz.func39 rfl Tryz.ntmps39 rfl aA rfl fun N9 M9 w9 c0 h0=>?_
 have hE:=hOk.e;have hN:=hOk.n;have hF:=hOk.f
 have hms:(R.ms t).length=R.E:=vQ
 have hbl:((R.bs t).map Fr4.of).length=R.E:=by rw[List.length_map];exact oC
 refine sq ?_;refine rl ?_;refine bx 1 ?_;refine nl ?_;refine sq ?_;refine rl ?_;refine o1 ?_;refine o1 ?_;refine ld ?_;have hrl:=Ie (R:=R) hOk (k:=t) (by omega)
 refine cl 2 [0] (KS (U:=(R.run t)) (x:=(R.ex (R.run t) t)) (c:=(fun _ _=>(0:Rat))) hOk (hOk.run (by omega)) ht (EZ (Nat.le_refl _)) (fun e _=>FA (Nat.le_refl _)) hrl) SK ⟨oe rfl rfl,rfl⟩ ⟨rfl,rfl,rfl,rfl⟩ (ok:=[some ⟨95,0,[.t (dA true (R.rls (R.run (t+1)) (t+1))),.t (cU true false (R.vns (R.run (t+1)) (R.ex (R.run t) t) (fun _ _=>(0:Rat)) (R.vl t))),.t (cI true false (R.run (t+1))),.t (dL (R.own (R.run (t+1)) (R.I t) t))]⟩]) ⟨oe rfl rfl,rfl⟩ ?_
 refine nl ?_;refine sq ?_;refine sq ?_;refine rl ?_;refine o1 ?_;refine ld ?_;refine o1 ?_;refine o1 ?_;refine nl ?_;refine bl ?_
 refine lp (γ:=Nat) (fun s=>cA [(0,.one (.pt 0 0)),(1,.one (tv (.int .i64 ((R.f:Nat):Int)))),(2,.one (tv (.int .i64 ((t:Nat):Int)))),(7,.one (.pt 1 0)),(20,.one (.t (gQ (R.ms t)))),(21,.one (tv (.int .i64 (((R.ms t).length:Nat):Int)))),(22,.one (tv (.int .i64 ((s:Nat):Int))))]) (fun s=>[(⟨95,0,[.t (dA true (R.rls (R.run (t+1)) (t+1))),.t (cU true false (R.vns (R.run (t+1)) (R.ex (R.run t) t) (fun _ _=>(0:Rat)) (R.vlk t s))),.t (cI true false (R.run (t+1))),.t (dL (R.own1 (R.run (t+1)) t s))]⟩:Ob),⟨67,0,(R.yrq t).map .t⟩].map some) (fun s=>s≤R.E) (fun s=>R.E-s) 0 (Nat.zero_le _) (cK h0 [0,1] _ _ (by decide) rfl ⟨rfl,rfl,rfl,rfl,rfl,rfl,rfl,trivial⟩ ⟨oe rfl (by have h9:(some ⟨95,0,[.t (dA true (R.rls (R.run (t+1)) (t+1))),.t (cU true false (R.vns (R.run (t+1)) (R.ex (R.run t) t) (fun _ _=>(0:Rat)) (R.vl t))),.t (cI true false (R.run (t+1))),.t (dL (R.own (R.run (t+1)) (R.I t) t))]⟩:Option Ob)=some ⟨95,0,[.t (dA true (R.rls (R.run (t+1)) (t+1))),.t (cU true false (R.vns (R.run (t+1)) (R.ex (R.run t) t) (fun _ _=>(0:Rat)) (R.vlk t 0))),.t (cI true false (R.run (t+1))),.t (dL (R.own1 (R.run (t+1)) t 0))]⟩:=(by rw[Yd,Th]);exact h9),aI rfl,rfl⟩) ?_
 rintro e he;refine sq ?_;refine rl ?_;refine o1 ?_;refine nl ?_;refine sq ?_;refine bM rfl (fun h1=>?_) (fun h1=>?_)
 ·refine sk ?_;refine sq ?_;refine bl ?_;refine sq ?_;have he9:e<R.E:=by omega
  refine rl ?_;refine o1 ?_;refine o1 ?_;refine dU ([.v (.bool (pR (R.ms t) (e)))]) (Pr (R.ms t) (k:=e) (by omega)) ?_
  refine o1 ?_;refine o1 ?_;refine nl ?_
  refine md (γ:=Unit) (fun _=>cA [(0,.one (.pt 0 0)),(1,.one (tv (.int .i64 ((R.f:Nat):Int)))),(2,.one (tv (.int .i64 ((t:Nat):Int)))),(7,.one (.pt 1 0)),(8,.one (tv (.int .i64 ((e:Nat):Int)))),(20,.one (.t (gQ (R.ms t)))),(21,.one (tv (.int .i64 (((R.ms t).length:Nat):Int)))),(22,.one (tv (.int .i64 ((e:Nat):Int)))),(37,.one (tv (.bool (R.isV t e))))]) (fun _=>([⟨95,0,[.t ((dA true (R.rls (R.run (t+1)) (t+1)))),.t ((cU true false (R.vns (R.run (t+1)) (R.ex (R.run t) t) (fun _ _=>(0:Rat)) (R.vlk t e)))),.t ((cI true false (R.run (t+1)))),.t ((dL (R.own1 (R.run (t+1)) t e)))]⟩,⟨67,0,[.t (gQ (R.ms t)),.t (sQ false ((R.bs t).map Fr4.of)),tv (.bool (aE (R.lim t).num)),.t (sU false (dg 4294967296 (R.lim t).num.natAbs)),tv (.bool false),.t (sU false (dg 4294967296 (R.lim t).den))]⟩]:List Ob).map some) (fun _=>True) ?_ fun _ _=>?_
  ·refine rl ?_;refine o1 ?_;refine WL.splitb (t:=27) rfl (fun h2=>?_) (fun h2=>?_)
   ·refine o1 ?_;refine o1 ?_;(iterate 7 refine cM ?_);refine o1 ?_;refine nl ?_
    exact⟨(),trivial,cK h0 [0,1] _ _ (by decide) rfl ⟨rfl,rfl,rfl,rfl,rfl,rfl,rfl,rfl,Eb (by unfold Rg.isV;rw[←vP he9];simp only[decide_eq_true h1,h2,Bool.not_true,Bool.not_false,Bool.or_true,Bool.true_or,Bool.false_or,Bool.or_false,Bool.false_eq_true,if_true,if_false,ite_true,ite_false,Bool.and_true,Bool.true_and,Bool.false_and,Bool.and_false,Bool.not_not] <;> first | rfl | (simp;done) | (rw[decide_eq_decide];exact(yU _).symm)),trivial⟩ ⟨oe rfl rfl,oe rfl rfl,rfl⟩⟩
   (iterate 3 refine o1 ?_);refine ld ?_;refine o1 ?_;refine o1 ?_
   refine dU ((Fr4.of (R.base t e)).tr false) ((by rw[←pY he9,←pT (by rw[oC];exact he9)];exact lX ((R.bs t).map Fr4.of) (k:=e) (by omega))) ?_
   refine ca (lW (Qn.of (p:=(R.base t e)) ((hOk.base t e ht he9).mono (M:=68719476736) (by omega)))) tG ⟨aG rfl,rfl⟩ (.one (tv (.int .i64 (R.base t e).num.sign))) ?_
   refine o1 ?_;refine o1 ?_;refine nl ?_
   exact⟨(),trivial,cK h0 [0,1] _ _ (by decide) rfl ⟨rfl,rfl,rfl,rfl,rfl,rfl,rfl,rfl,Eb (by unfold Rg.isV;rw[←vP he9];simp only[decide_eq_true h1,h2,Bool.not_true,Bool.not_false,Bool.or_true,Bool.true_or,Bool.false_or,Bool.or_false,Bool.false_eq_true,if_true,if_false,ite_true,ite_false,Bool.and_true,Bool.true_and,Bool.false_and,Bool.and_false,Bool.not_not] <;> first | rfl | (simp;done) | (rw[decide_eq_decide];exact(yU _).symm)),trivial⟩ ⟨oe rfl rfl,oe rfl rfl,rfl⟩⟩
  refine nV rfl (fun h3=>?_) (fun h3=>?_)
  ·refine sq ?_;have hv:R.isV t e=true:=h3
   have hpos:=(sA hv).2
   rw[(sA hv).1]at hpos;have hwl:=rZ (R:=R) (U:=(R.run (t+1))) (e:=e) (I:=R.I t)
   have hIl:=rY (R:=R) (k:=t)
   have hsn:Sz 68719476736 (-(R.base t e)):=(An (hOk.base t e ht he9)).mono (by omega)
   have hO1:(R.own1 (R.run (t+1)) t e).length=R.E:=gO
   have hvl8:=FH (R:=R) hE (t:=t) (e:=e) he
   refine rl ?_;refine o1 ?_;refine ld ?_;refine o1 ?_;refine o1 ?_
   refine dU ((Fr4.of (R.base t e)).tr false) ((by rw[←pY he9,←pT (by rw[oC];exact he9)];exact lX ((R.bs t).map Fr4.of) (k:=e) (by omega))) ?_
   refine ca (PY (Qn.of (p:=(R.base t e)) ((hOk.base t e ht he9).mono (M:=68719476736) (by omega)))) KY ⟨aG rfl,rfl⟩ (qF (.of (-(R.base t e)))) ?_
   refine al 2 ?_;refine st ?_;refine nl ?_;refine sq ?_
   refine WP.sub (nX (j:=0) (key:=3) (p:=3) (e:=96) (z:=1) (n:=(R.own1 (R.run (t+1)) t e).length) (trs:=(R.own1 (R.run (t+1)) t e).map dQ) rfl rfl rfl rfl rfl) ?_
   refine WP.sub (Hu (j:=3) (key:=4) (p:=e) (e:=137) (trs:=[sR 102 (R.wl (R.run (t+1)) e (R.I t)),.v (.int .i64 (R.lp e t).1),.v (.bool (R.lp e t).2)]) rfl rfl (by rw[xC (by omega),Ia he9];rfl) rfl) ?_
   refine rd [0,1,2,3] (fun i=>[].contains i) mixed ?_
   refine dv 0 ?_;refine dv 1 ?_;refine dv 2 ?_;refine aR 3 ?_;refine dv 4 ?_;refine dv 5 ?_
   refine Ph 6 (l:=(((R.own1 (R.run (t+1)) t e).map dQ).map AV.t).set e (.pt 4 0)) (v:=.pt 4 0) (Ak (by rw[jY];omega)) ?_
   refine dv 7 ?_;refine aR 8 ?_
   have hput:=KW (vs:=(R.wl (R.run (t+1)) e (R.I t))) (last:=(R.lp e t).1) (y:=((t:Nat):Int)) (put:=(R.lp e t).2) (q:=-(R.base t e)) hsn (Rat.le_of_lt hpos) CD (by omega)
   have hpw:(R.wl (R.run (t+1)) e (R.I t))++(if 0< -(R.base t e)then [(((t:Nat):Int),-(R.base t e))]else [])=(R.wl (R.run (t+1)) e (R.I t++[t])):=by rw[Ti,Hz (Nat.le_refl _),(sA hv).1]
   rw[hpw]at hput
   refine Sx 9 5 [4] rfl hput SL ⟨oe rfl rfl,rfl⟩ ⟨rfl,rfl,rfl,rfl⟩ (ok:=[some ⟨137,0,[.t (sR 102 (R.wl (R.run (t+1)) e (R.I t++[t]))),tv (.int .i64 ((t:Nat):Int)),tv (.bool true)]⟩]) ⟨oe rfl rfl,rfl⟩ ⟨rfl,rfl,rfl,rfl,trivial⟩ ?_
   refine aS ?_
   have hn1:(R.own1 (R.run (t+1)) t e).set e ((R.wl (R.run (t+1)) e (R.I t++[t])),((t:Nat):Int),true)=R.own1 (R.run (t+1)) t (e+1):=by rw[←Ib he9,KV hv]
   refine WP.sub (Ci (j:=3) (k:=4) (p:=e) (e:=137) (trs:=[sR 102 (R.wl (R.run (t+1)) e (R.I t++[t])),.v (.int .i64 ((t:Nat):Int)),.v (.bool true)]) (l':=((R.own1 (R.run (t+1)) t (e+1)).map dQ).map .t) rfl rfl rfl (List.getElem?_set_self (by rw[jY];omega)) ((Ht (x:=((R.wl (R.run (t+1)) e (R.I t++[t])),((t:Nat):Int),true))).trans (by rw[hn1]))) ?_
   refine WP.sub (iU (j:=0) (k:=3) (p:=3) (e:=96) (z:=1) (n:=(R.own1 (R.run (t+1)) t e).length) (trs:=(R.own1 (R.run (t+1)) t (e+1)).map dQ) rfl rfl rfl rfl rfl (cD _ _ (by rw[List.length_map,gO,gO];omega)) (by rw[List.length_map,gO,gO];omega) rfl) ?_
   refine WP.sub (nX (j:=0) (key:=5) (p:=1) (e:=64) (z:=18) (n:=(R.vns (R.run (t+1)) (R.ex (R.run t) t) (fun _ _=>(0:Rat)) (R.vlk t e)).length) (trs:=(R.vns (R.run (t+1)) (R.ex (R.run t) t) (fun _ _=>(0:Rat)) (R.vlk t e)).flatMap (eE false)) rfl rfl rfl rfl rfl) ?_
   refine rd [0,1,2] (fun i=>[18].contains i) mixed ?_
   refine dv 0 ?_;refine dv 1 ?_;refine dv 2 ?_;refine dv 3 ?_;refine dv 4 ?_;refine aR 5 ?_;refine dv 6 ?_;refine dv 7 ?_;refine aR 8 ?_
   refine bB 9 rfl (fX (z:=0) (by omega) (by omega)) mX ⟨a1 rfl,rfl⟩ (qF (.of ((0:Int):Rat))) ?_
   refine bB 10 rfl (fX (z:=0) (by omega) (by omega)) mX ⟨a1 rfl,rfl⟩ (qF (.of ((0:Int):Rat))) ?_
   refine bB 11 rfl (fX (z:=0) (by omega) (by omega)) mX ⟨a1 rfl,rfl⟩ (qF (.of ((0:Int):Rat))) ?_
   refine df 12 ?_;refine kN (key:=6) 13 (by kernel_rfl) rfl rfl aA rfl ⟨rfl,rfl,rfl,trivial⟩ ?_
   refine oB (j:=7) (n:=(R.vns (R.run (t+1)) (R.ex (R.run t) t) (fun _ _=>(0:Rat)) (R.vlk t e)).length) (l:=((R.vns (R.run (t+1)) (R.ex (R.run t) t) (fun _ _=>(0:Rat)) (R.vlk t e)).flatMap (eE false)).map .t) 14 rfl aA rfl rfl rfl (.sl rfl (by rw[List.length_map,cL (eH false)])) (.sl rfl rfl rfl) rfl rfl (by rw[eQ];omega) (by rw[eQ];omega) rfl ⟨rfl,rfl,rfl,trivial⟩ rfl (by kernel_rfl) rfl ?_
   refine eR 15 (by kernel_rfl) rfl rfl aA rfl (by trivial) ?_ (fun h=>by first | rfl | cases h)
   refine eR 16 (by kernel_rfl) rfl rfl aA rfl (by trivial) ?_ (fun h=>by first | rfl | cases h)
   refine df 17 ?_;refine dst 18 ?_;refine aS ?_
   have hfin:R.vns (R.run (t+1)) (R.ex (R.run t) t) (fun _ _=>(0:Rat)) (R.vlk t e)++[⟨((t:Nat):Int),((e:Nat):Int),-(R.base t e),((0:Int):Rat),((0:Int):Rat),((0:Int):Rat)⟩]=R.vns (R.run (t+1)) (R.ex (R.run t) t) (fun _ _=>(0:Rat)) (R.vlk t (e+1)):=by
    rw[FC hv,←Ym];unfold Rg.vn;rw[Ml (Nat.le_refl _),KT (Nat.le_refl _),(sA hv).1];rfl
   have hlen9:(R.vns (R.run (t+1)) (R.ex (R.run t) t) (fun _ _=>(0:Rat)) (R.vlk t (e+1))).length=(R.vns (R.run (t+1)) (R.ex (R.run t) t) (fun _ _=>(0:Rat)) (R.vlk t e)).length+1:=by rw[←hfin,List.length_append];rfl
   refine WP.sub (iU (j:=0) (k:=7) (p:=1) (e:=64) (z:=18) (n:=(R.vns (R.run (t+1)) (R.ex (R.run t) t) (fun _ _=>(0:Rat)) (R.vlk t e)).length+1) (trs:=(R.vns (R.run (t+1)) (R.ex (R.run t) t) (fun _ _=>(0:Rat)) (R.vlk t (e+1))).flatMap (eE false)) rfl rfl rfl (congrArg (fun l:List AV=>some (⟨64,18,l⟩:Ob)) ((FG (R.vns (R.run (t+1)) (R.ex (R.run t) t) (fun _ _=>(0:Rat)) (R.vlk t e)) ⟨((t:Nat):Int),((e:Nat):Int),-(R.base t e),((0:Int):Rat),((0:Int):Rat),((0:Int):Rat)⟩).trans (by rw[hfin]))) rfl (cD _ _ (by rw[cL (eH false),hlen9])) (by rw[cL (eH false),hlen9]) rfl) ?_
   refine rl ?_;refine o1 ?_;refine WL.cast (t:=72) (u':=.int .i64 ((e+1:Nat):Int)) rfl (aC (by omega)) ?_
   refine o1 ?_;refine nl ?_
   exact⟨e+1,by omega,by omega,cK h0 [0,1] _ _ (by decide) rfl ⟨rfl,rfl,rfl,rfl,rfl,rfl,rfl,trivial⟩ ⟨oe rfl (by have h9:(some ⟨95,0,[.t (dA true (R.rls (R.run (t+1)) (t+1))),.t (.s true 64 18 ((R.vns (R.run (t+1)) (R.ex (R.run t) t) (fun _ _=>(0:Rat)) (R.vlk t e)).length+1) ((R.vns (R.run (t+1)) (R.ex (R.run t) t) (fun _ _=>(0:Rat)) (R.vlk t (e+1))).flatMap (eE false))),.t (cI true false (R.run (t+1))),.t (.s true 96 1 (R.own1 (R.run (t+1)) t e).length ((R.own1 (R.run (t+1)) t (e+1)).map dQ))]⟩:Option Ob)=some ⟨95,0,[.t (dA true (R.rls (R.run (t+1)) (t+1))),.t (cU true false (R.vns (R.run (t+1)) (R.ex (R.run t) t) (fun _ _=>(0:Rat)) (R.vlk t (e+1)))),.t (cI true false (R.run (t+1))),.t (dL (R.own1 (R.run (t+1)) t (e+1)))]⟩:=(by rw[cU,dL,hlen9,gO,gO]);exact h9),aI rfl,rfl⟩⟩
  refine sk ?_;have hv:R.isV t e=false:=h3
  refine rl ?_;refine o1 ?_;refine WL.cast (t:=72) (u':=.int .i64 ((e+1:Nat):Int)) rfl (aC (by omega)) ?_
  refine o1 ?_;refine nl ?_;have hv1:R.vlk t (e+1)=R.vlk t e:=KU hv
  have hv2:R.own1 (R.run (t+1)) t (e+1)=R.own1 (R.run (t+1)) t e:=FE he9 (fun e=>Hz (Nat.le_refl _)) hv
  exact⟨e+1,by omega,by omega,cK h0 [0,1] _ _ (by decide) rfl ⟨rfl,rfl,rfl,rfl,rfl,rfl,rfl,trivial⟩ ⟨oe rfl (by have h9:(some ⟨95,0,[.t (dA true (R.rls (R.run (t+1)) (t+1))),.t (cU true false (R.vns (R.run (t+1)) (R.ex (R.run t) t) (fun _ _=>(0:Rat)) (R.vlk t e))),.t (cI true false (R.run (t+1))),.t (dL (R.own1 (R.run (t+1)) t e))]⟩:Option Ob)=some ⟨95,0,[.t (dA true (R.rls (R.run (t+1)) (t+1))),.t (cU true false (R.vns (R.run (t+1)) (R.ex (R.run t) t) (fun _ _=>(0:Rat)) (R.vlk t (e+1)))),.t (cI true false (R.run (t+1))),.t (dL (R.own1 (R.run (t+1)) t (e+1)))]⟩:=(by rw[hv1,hv2]);exact h9),aI rfl,rfl⟩⟩
 refine ex ?_;refine sq ?_;have hee:e=R.E:=by omega
 subst hee;refine WP.sub (nX (j:=0) (key:=2) (p:=3) (e:=96) (z:=1) (n:=(R.own1 (R.run (t+1)) t R.E).length) (trs:=(R.own1 (R.run (t+1)) t R.E).map dQ) rfl rfl rfl rfl rfl) ?_
 refine rl ?_;(iterate 3 refine o1 ?_);refine ld ?_;refine o1 ?_;refine o1 ?_;refine nl ?_;refine bl ?_
 have hx0:R.exk (R.run (t+1)) t 0 false=(R.ex (R.run t) t):=by rw[Yi];exact Yc
 refine lp (γ:=Nat) (fun s=>cA [(0,.one (.pt 0 0)),(1,.one (tv (.int .i64 ((R.f:Nat):Int)))),(2,.one (tv (.int .i64 ((t:Nat):Int)))),(76,.one (.sl 1 0 (R.E))),(77,.one (tv (.int .i64 ((R.E:Nat):Int)))),(78,.one (tv (.int .i64 ((s:Nat):Int))))]) (fun s=>[(⟨95,0,[.t (dA true (R.rls (R.run (t+1)) (t+1))),.t (cU true false (R.vns (R.run (t+1)) (R.exk (R.run (t+1)) t s false) (fun _ _=>(0:Rat)) (R.vl (t+1)))),.t (cI true false (R.run (t+1))),.sl 1 0 R.E]⟩:Ob),⟨96,1,((R.own2 (R.run (t+1)) t s).map dQ).map .t⟩].map some) (fun s=>s≤R.E) (fun s=>R.E-s) 0 (Nat.zero_le _) (cK h0 [0,2] _ _ (by decide) rfl ⟨rfl,rfl,rfl,(by rw[gO];rfl),Gy (by rw[gO]),rfl,trivial⟩ ⟨oe rfl (by have h9:(some ⟨95,0,[.t (dA true (R.rls (R.run (t+1)) (t+1))),.t (cU true false (R.vns (R.run (t+1)) (R.ex (R.run t) t) (fun _ _=>(0:Rat)) (R.vlk t R.E))),.t (cI true false (R.run (t+1))),.sl 2 0 (R.own1 (R.run (t+1)) t R.E).length]⟩:Option Ob)=some ⟨95,0,[.t (dA true (R.rls (R.run (t+1)) (t+1))),.t (cU true false (R.vns (R.run (t+1)) (R.exk (R.run (t+1)) t 0 false) (fun _ _=>(0:Rat)) (R.vl (t+1)))),.t (cI true false (R.run (t+1))),.sl 2 0 R.E]⟩:=(by rw[hx0,gO,FB]);exact h9),aI (by have h9:(some ⟨96,1,((R.own1 (R.run (t+1)) t R.E).map dQ).map .t⟩:Option Ob)=some ⟨96,1,((R.own2 (R.run (t+1)) t 0).map dQ).map .t⟩:=(by rw[Ye]);exact h9),rfl⟩) ?_
 rintro q hq;refine sq ?_;refine rl ?_;refine o1 ?_;refine nl ?_;refine sq ?_;refine bM rfl (fun h4=>?_) (fun h4=>?_)
 ·refine sk ?_;refine sq ?_;refine bl ?_;refine sq ?_;have hq9:q<R.E:=by omega
  have hIv:=hOk.run (k:=t+1) (by omega)
  have hal:=rZ (R:=R) (U:=(R.run (t+1))) (e:=q) (I:=R.I t++[t])
  rw[List.length_append,List.length_singleton]at hal;have hIl:=rY (R:=R) (k:=t)
  have hzz:∀x∈(R.wl (R.run (t+1)) q (R.I t++[t])),Sz 68719476736 x.2:=fun x hx=>by obtain⟨i,hi,rfl,_⟩:=iG.1 hx;exact(hIv.sz_left hOk (by rcases List.mem_append.1 hi with h | h;(have:=(jM.1 h).1;omega);(rw[List.mem_singleton]at h;omega)) hq9).mono (by omega)
  have hexp:=Xs (vs:=(R.wl (R.run (t+1)) q (R.I t++[t]))) (last:=(R.lp q (t+1)).1) (put:=(R.lp q (t+1)).2) (b:=((t:Nat):Int)-((R.f:Nat):Int)+1) (by omega) hzz
  rw[KZ,LA]at hexp
  refine WP.sub (Hu (j:=1) (key:=2) (p:=q) (e:=137) (trs:=[sR 102 (R.wl (R.run (t+1)) q (R.I t++[t])),.v (.int .i64 (R.lp q (t+1)).1),.v (.bool (R.lp q (t+1)).2)]) rfl rfl (by rw[xC (by rw[yT];exact hq9),Yg hq9];rfl) rfl) ?_
  refine rl ?_;refine o1 ?_;refine o1 ?_;refine Lu (l:=(((R.own2 (R.run (t+1)) t q).map dQ).map AV.t).set q (.pt 2 0)) (v:=.pt 2 0) (Ak (by rw[jY,yT];exact hq9)) ?_
  refine o1 ?_;refine o1 ?_;refine nl ?_;refine sq ?_;refine rl ?_;(iterate 5 refine o1 ?_)
  refine cl 3 [2] hexp SM ⟨oe rfl rfl,rfl⟩ ⟨rfl,rfl,rfl⟩ (ok:=[some ⟨137,0,[.t (sR 102 (R.wl (R.run (t+1)) q (R.I (t+1)))),tv (.int .i64 (R.lp q (t+1)).1),tv (.bool (R.lp q (t+1)).2)]⟩]) ⟨oe rfl rfl,rfl⟩ ?_
  refine o1 ?_;refine o1 ?_;refine nl ?_;refine bl ?_
  refine WP.sub (KL (i:=88) (k:=3) (n:=(R.wl (R.run (t+1)) q (R.J t)).length) 102 rfl rfl rfl (bJ true _) (xB true _) (.one .sl)) ?_
  refine WP.sub (Ci (j:=1) (k:=2) (p:=q) (e:=137) (trs:=[sR 102 (R.wl (R.run (t+1)) q (R.I (t+1))),.v (.int .i64 (R.lp q (t+1)).1),.v (.bool (R.lp q (t+1)).2)]) (l':=((R.own2 (R.run (t+1)) t (q+1)).map dQ).map .t) rfl rfl rfl (List.getElem?_set_self (by rw[jY,yT];exact hq9)) ((Ht (x:=((R.wl (R.run (t+1)) q (R.I (t+1))),(R.lp q (t+1)).1,(R.lp q (t+1)).2))).trans (by rw[Yh hq9]))) ?_
  refine WP.sub (nX (j:=0) (key:=4) (p:=1) (e:=64) (z:=18) (n:=(R.vns (R.run (t+1)) (R.exk (R.run (t+1)) t q false) (fun _ _=>(0:Rat)) (R.vl (t+1))).length) (trs:=(R.vns (R.run (t+1)) (R.exk (R.run (t+1)) t q false) (fun _ _=>(0:Rat)) (R.vl (t+1))).flatMap (eE false)) rfl rfl rfl rfl rfl) ?_
  refine lp (γ:=Nat) (fun s=>cA [(0,.one (.pt 0 0)),(1,.one (tv (.int .i64 ((R.f:Nat):Int)))),(2,.one (tv (.int .i64 ((t:Nat):Int)))),(11,.one (tv (.int .i64 ((q:Nat):Int)))),(76,.one (.sl 1 0 (R.E))),(77,.one (tv (.int .i64 ((R.E:Nat):Int)))),(78,.one (tv (.int .i64 ((q:Nat):Int)))),(88,.one (.t (sV 102 false (R.wl (R.run (t+1)) q (R.J t))))),(89,.one (tv (.int .i64 (((R.wl (R.run (t+1)) q (R.J t)).length:Nat):Int)))),(90,.one (tv (.int .i64 ((s:Nat):Int))))]) (fun s=>[(⟨95,0,[.t (dA true (R.rls (R.run (t+1)) (t+1))),.sl 2 0 (R.vl (t+1)).length,.t (cI true false (R.run (t+1))),.sl 1 0 R.E]⟩:Ob),⟨96,1,((R.own2 (R.run (t+1)) t (q+1)).map dQ).map .t⟩,⟨64,18,((R.vns (R.run (t+1)) (R.exk (R.run (t+1)) t q (decide (0<s))) (fun _ _=>(0:Rat)) (R.vl (t+1))).flatMap (eE false)).map .t⟩].map some) (fun s=>s≤(R.wl (R.run (t+1)) q (R.J t)).length) (fun s=>(R.wl (R.run (t+1)) q (R.J t)).length-s) 0 (Nat.zero_le _) (cK h0 [0,1,4] _ _ (by decide) rfl ⟨rfl,rfl,rfl,rfl,rfl,rfl,rfl,rfl,rfl,rfl,trivial⟩ ⟨oe rfl (by have h9:(some ⟨95,0,[.t (dA true (R.rls (R.run (t+1)) (t+1))),.sl 4 0 (R.vns (R.run (t+1)) (R.exk (R.run (t+1)) t q false) (fun _ _=>(0:Rat)) (R.vl (t+1))).length,.t (cI true false (R.run (t+1))),.sl 1 0 R.E]⟩:Option Ob)=some ⟨95,0,[.t (dA true (R.rls (R.run (t+1)) (t+1))),.sl 4 0 (R.vl (t+1)).length,.t (cI true false (R.run (t+1))),.sl 1 0 R.E]⟩:=(by rw[eQ]);exact h9),aI rfl,aI rfl,rfl⟩) ?_
  rintro k hk;refine sq ?_;refine rl ?_;refine o1 ?_;refine nl ?_;refine sq ?_;refine bM rfl (fun h5=>?_) (fun h5=>?_)
  ·refine sk ?_;refine sq ?_;refine bl ?_;refine sq ?_;refine rl ?_;refine o1 ?_;refine dU (cF false (aJ (R.wl (R.run (t+1)) q (R.J t)) (k))) (rW false (by omega)) ?_
   refine al 3 ?_;refine st ?_;refine nl ?_;have hJ1:=Mm (R:=R) (U:=(R.run (t+1))) (e:=q) (t:=t)
   obtain⟨j,hj,hxe,hjp⟩:=iG.1 (mY (vs:=(R.wl (R.run (t+1)) q (R.J t))) (k:=k) (by omega))
   have hj9:=Id.1 hj
   have hx1:(aJ (R.wl (R.run (t+1)) q (R.J t)) (k)).1=((j:Nat):Int):=by rw[hxe]
   have hx2:(aJ (R.wl (R.run (t+1)) q (R.J t)) (k)).2=R.left (R.run (t+1)) j q:=by rw[hxe]
   have hk0:k=0:=by omega
   have hjv:R.isV j q=true:=by
    have h6:=(hIv.v j q (by omega) hq9).1.2
    cases h8:R.isV j q
    ·rw[Am h8]at h6
     grind
    rfl
   have hjm:(j,q)∈R.vl (t+1):=fM.2 ⟨by dsimp only;omega,hq9,hjv⟩
   have hfi:(cN (bZ (aJ (R.wl (R.run (t+1)) q (R.J t)) (k)).1 ((q:Nat):Int)) (R.vns (R.run (t+1)) (R.exk (R.run (t+1)) t q (decide (0<k))) (fun _ _=>(0:Rat)) (R.vl (t+1))))<(R.vns (R.run (t+1)) (R.exk (R.run (t+1)) t q (decide (0<k))) (fun _ _=>(0:Rat)) (R.vl (t+1))).length:=by rw[hx1,eQ];exact(vH hjm).1
   have hvl9:=qA (R:=R) hE (t+1)
   have hge:(R.vns (R.run (t+1)) (R.exk (R.run (t+1)) t q (decide (0<k))) (fun _ _=>(0:Rat)) (R.vl (t+1)))[(cN (bZ (aJ (R.wl (R.run (t+1)) q (R.J t)) (k)).1 ((q:Nat):Int)) (R.vns (R.run (t+1)) (R.exk (R.run (t+1)) t q (decide (0<k))) (fun _ _=>(0:Rat)) (R.vl (t+1))))]? =some (R.vn (R.run (t+1)) (R.exk (R.run (t+1)) t q (decide (0<k))) (fun _ _=>(0:Rat)) (j,q)):=by rw[hx1];exact wU hjm
   have hset:(R.vns (R.run (t+1)) (R.exk (R.run (t+1)) t q (decide (0<k))) (fun _ _=>(0:Rat)) (R.vl (t+1))).set (cN (bZ (aJ (R.wl (R.run (t+1)) q (R.J t)) (k)).1 ((q:Nat):Int)) (R.vns (R.run (t+1)) (R.exk (R.run (t+1)) t q (decide (0<k))) (fun _ _=>(0:Rat)) (R.vl (t+1)))) (⟨(R.vn (R.run (t+1)) (R.exk (R.run (t+1)) t q (decide (0<k))) (fun _ _=>(0:Rat)) (j,q)).y,(R.vn (R.run (t+1)) (R.exk (R.run (t+1)) t q (decide (0<k))) (fun _ _=>(0:Rat)) (j,q)).e,(R.vn (R.run (t+1)) (R.exk (R.run (t+1)) t q (decide (0<k))) (fun _ _=>(0:Rat)) (j,q)).l,(R.vn (R.run (t+1)) (R.exk (R.run (t+1)) t q (decide (0<k))) (fun _ _=>(0:Rat)) (j,q)).u,(aJ (R.wl (R.run (t+1)) q (R.J t)) (k)).2,(R.vn (R.run (t+1)) (R.exk (R.run (t+1)) t q (decide (0<k))) (fun _ _=>(0:Rat)) (j,q)).c⟩:Vn)=(R.vns (R.run (t+1)) (R.exk (R.run (t+1)) t q (decide (0<(k+1)))) (fun _ _=>(0:Rat)) (R.vl (t+1))):=by
    rw[hx1,hx2]
    have h9:=Cc (R:=R) (U:=(R.run (t+1))) (U':=(R.run (t+1))) (x:=(R.exk (R.run (t+1)) t q (decide (0<k)))) (x':=(R.exk (R.run (t+1)) t q (decide (0<(k+1))))) (c:=(fun _ _=>(0:Rat))) (c':=(fun _ _=>(0:Rat))) (nA (t+1)) hjm fun p _ hp=>by
     unfold Rg.vn;have h8:(R.exk (R.run (t+1)) t q (decide (0<k))) p.1 p.2=(R.exk (R.run (t+1)) t q (decide (0<(k+1)))) p.1 p.2:=by
      subst hk0;unfold Rg.exk;by_cases h5:p.2<q
      ·rw[if_pos (.inl h5),if_pos (.inl h5)]
      by_cases h6:p.2=q
      ·have h7:p.1≠j:=fun h=>hp (Prod.ext h h6)
       rw[if_neg (by simp;omega),if_pos (.inr ⟨h6,by simp⟩)]
       unfold Rg.ex;by_cases h4:p.1+R.f<t
       ·rw[if_pos h4,if_pos (by omega)]
       rw[if_neg h4,if_neg (by omega)]
      rw[if_neg (by simp;omega),if_neg (by simp;omega)]
     rw[h8]
    rw[←h9];unfold Rg.vn;have h7:(R.exk (R.run (t+1)) t q (decide (0<(k+1)))) j q=R.left (R.run (t+1)) j q:=by
     unfold Rg.exk Rg.ex;rw[if_pos (by simp),if_pos (by omega)]
    rw[h7]
   refine rd [3] (fun i=>[9].contains i) mixed ?_
   refine dv 0 ?_;refine dv 1 ?_;refine aR 2 ?_;refine dv 3 ?_;refine dv 5 ?_;refine aR 6 ?_
   have hvi:=Aj (vs:=(R.vns (R.run (t+1)) (R.exk (R.run (t+1)) t q (decide (0<k))) (fun _ _=>(0:Rat)) (R.vl (t+1)))) (y:=(aJ (R.wl (R.run (t+1)) q (R.J t)) (k)).1) (e:=((q:Nat):Int)) (ra:=(dA true (R.rls (R.run (t+1)) (t+1)))) (rb:=(cI true false (R.run (t+1)))) (rc:=.v (.bool false)) (m:=R.E) (l3:=(R.own2 (R.run (t+1)) t (q+1)).map dQ) hfi (by rw[eQ];omega)
   rw[show(R.vns (R.run (t+1)) (R.exk (R.run (t+1)) t q (decide (0<k))) (fun _ _=>(0:Rat)) (R.vl (t+1))).length=(R.vl (t+1)).length from eQ]at hvi
   refine JK 4 [0,2,1] rfl hvi Xv ⟨oe rfl rfl,aI rfl,aI rfl,rfl⟩ ⟨rfl,rfl,rfl,rfl⟩ (ok:=[some ⟨95,0,[.t (dA true (R.rls (R.run (t+1)) (t+1))),.sl 2 0 (R.vl (t+1)).length,.t (cI true false (R.run (t+1))),.sl 1 0 R.E]⟩,some ⟨64,18,((R.vns (R.run (t+1)) (R.exk (R.run (t+1)) t q (decide (0<k))) (fun _ _=>(0:Rat)) (R.vl (t+1))).flatMap (eE false)).map .t⟩,some ⟨96,1,((R.own2 (R.run (t+1)) t (q+1)).map dQ).map .t⟩]) ⟨oe rfl rfl,aI rfl,aI rfl,rfl⟩ ⟨rfl,trivial⟩ ?_
   refine eR 7 (by kernel_rfl) rfl rfl aA rfl (by trivial) ?_ (fun h=>by first | rfl | cases h)
   refine df 8 ?_
   refine lV 9 (dK (xs:=(R.vns (R.run (t+1)) (R.exk (R.run (t+1)) t q (decide (0<k))) (fun _ _=>(0:Rat)) (R.vl (t+1)))) (k:=(cN (bZ (aJ (R.wl (R.run (t+1)) q (R.J t)) (k)).1 ((q:Nat):Int)) (R.vns (R.run (t+1)) (R.exk (R.run (t+1)) t q (decide (0<k))) (fun _ _=>(0:Rat)) (R.vl (t+1))))) (x:=(R.vn (R.run (t+1)) (R.exk (R.run (t+1)) t q (decide (0<k))) (fun _ _=>(0:Rat)) (j,q))) (f:=(eE false)) (z:=18) (o:=10) (x':=(⟨(R.vn (R.run (t+1)) (R.exk (R.run (t+1)) t q (decide (0<k))) (fun _ _=>(0:Rat)) (j,q)).y,(R.vn (R.run (t+1)) (R.exk (R.run (t+1)) t q (decide (0<k))) (fun _ _=>(0:Rat)) (j,q)).e,(R.vn (R.run (t+1)) (R.exk (R.run (t+1)) t q (decide (0<k))) (fun _ _=>(0:Rat)) (j,q)).l,(R.vn (R.run (t+1)) (R.exk (R.run (t+1)) t q (decide (0<k))) (fun _ _=>(0:Rat)) (j,q)).u,(aJ (R.wl (R.run (t+1)) q (R.J t)) (k)).2,(R.vn (R.run (t+1)) (R.exk (R.run (t+1)) t q (decide (0<k))) (fun _ _=>(0:Rat)) (j,q)).c⟩:Vn)) (us:=(Fr4.of (aJ (R.wl (R.run (t+1)) q (R.J t)) (k)).2).tr false) (eH false) (hge) (Nat.le_of_ble_eq_true rfl) rfl) (eL (xs:=(R.vns (R.run (t+1)) (R.exk (R.run (t+1)) t q (decide (0<k))) (fun _ _=>(0:Rat)) (R.vl (t+1)))) (k:=(cN (bZ (aJ (R.wl (R.run (t+1)) q (R.J t)) (k)).1 ((q:Nat):Int)) (R.vns (R.run (t+1)) (R.exk (R.run (t+1)) t q (decide (0<k))) (fun _ _=>(0:Rat)) (R.vl (t+1))))) (f:=(eE false)) (z:=18) (o:=10) (us:=(Fr4.of (aJ (R.wl (R.run (t+1)) q (R.J t)) (k)).2).tr false) (eH false) (by omega) (Nat.le_of_ble_eq_true rfl)) ?_
   refine aS ?_;refine rl ?_;refine o1 ?_;refine WL.cast (t:=103) (u':=.int .i64 ((k+1:Nat):Int)) rfl (aC (by omega)) ?_
   refine o1 ?_;refine nl ?_
   exact⟨k+1,by omega,by omega,cK h0 [0,1,2] _ _ (by decide) rfl ⟨rfl,rfl,rfl,rfl,rfl,rfl,rfl,rfl,rfl,rfl,trivial⟩ ⟨oe rfl rfl,aI rfl,aI (congrArg (fun l:List Vn=>some (⟨64,18,(l.flatMap (eE false)).map .t⟩:Ob)) hset),rfl⟩⟩
  refine ex ?_;have hJ1:=Mm (R:=R) (U:=(R.run (t+1))) (e:=q) (t:=t)
  have hxk:(R.exk (R.run (t+1)) t q (decide (0<k)))=(R.exk (R.run (t+1)) t (q+1) false):=by
   by_cases hk0:0<k
   ·rw[decide_eq_true hk0]
    exact Ic
   have hE0:(R.wl (R.run (t+1)) q (R.J t))=[]:=List.eq_nil_of_length_eq_zero (by omega)
   rw[decide_eq_false hk0,Yj hIv ht hq9 hE0];exact Ic
  refine WP.sub (iU (j:=0) (k:=2) (p:=1) (e:=64) (z:=18) (n:=(R.vl (t+1)).length) (trs:=(R.vns (R.run (t+1)) (R.exk (R.run (t+1)) t (q+1) false) (fun _ _=>(0:Rat)) (R.vl (t+1))).flatMap (eE false)) rfl rfl rfl (congrArg (fun x:Nat→Nat→Rat=>some (⟨64,18,((R.vns (R.run (t+1)) x (fun _ _=>(0:Rat)) (R.vl (t+1))).flatMap (eE false)).map .t⟩:Ob)) hxk) rfl (cD _ _ (by rw[cL (eH false),eQ])) (by rw[cL (eH false),eQ]) rfl) ?_
  refine rl ?_;refine o1 ?_;refine WL.cast (t:=104) (u':=.int .i64 ((q+1:Nat):Int)) rfl (aC (by omega)) ?_
  refine o1 ?_;refine nl ?_
  exact⟨q+1,by omega,by omega,cK h0 [0,1] _ _ (by decide) rfl ⟨rfl,rfl,rfl,rfl,rfl,rfl,trivial⟩ ⟨oe rfl (by have h9:(some ⟨95,0,[.t (dA true (R.rls (R.run (t+1)) (t+1))),.t (.s true 64 18 (R.vl (t+1)).length ((R.vns (R.run (t+1)) (R.exk (R.run (t+1)) t (q+1) false) (fun _ _=>(0:Rat)) (R.vl (t+1))).flatMap (eE false))),.t (cI true false (R.run (t+1))),.sl 1 0 R.E]⟩:Option Ob)=some ⟨95,0,[.t (dA true (R.rls (R.run (t+1)) (t+1))),.t (cU true false (R.vns (R.run (t+1)) (R.exk (R.run (t+1)) t (q+1) false) (fun _ _=>(0:Rat)) (R.vl (t+1)))),.t (cI true false (R.run (t+1))),.sl 1 0 R.E]⟩:=(by rw[cU,eQ]);exact h9),aI rfl,rfl⟩⟩
 refine ex ?_;have hqq:q=R.E:=by omega
 subst hqq
 refine CB (iU (j:=0) (k:=1) (p:=3) (e:=96) (z:=1) (n:=R.E) (trs:=(R.own (R.run (t+1)) (R.I (t+1)) (t+1)).map dQ) rfl rfl rfl (congrArg (fun l:List (List (Int×Rat)×Int×Bool)=>some (⟨96,1,(l.map dQ).map .t⟩:Ob)) Yf) rfl (cD _ _ (by rw[List.length_map,jP];omega)) (by rw[List.length_map,jP];omega) rfl) ?_
 have hvx:(R.vns (R.run (t+1)) (R.exk (R.run (t+1)) t R.E false) (fun _ _=>(0:Rat)) (R.vl (t+1)))=(R.vns (R.run (t+1)) (R.ex (R.run (t+1)) (t+1)) (fun _ _=>(0:Rat)) (R.vl (t+1))):=List.map_congr_left fun p hp=>by
  unfold Rg.vn;rw[FF (fM.1 hp).2.1]
 exact Cj <| gR (lent':=[⟨95,0,[.t (dA true (R.rls (R.run (t+1)) (t+1))),.t (cU true false (R.vns (R.run (t+1)) (R.ex (R.run (t+1)) (t+1)) (fun _ _=>(0:Rat)) (R.vl (t+1)))),.t (cI true false (R.run (t+1))),.t (dL (R.own (R.run (t+1)) (R.I (t+1)) (t+1)))]⟩]) (.inr rfl) rfl pU (by decide) (fun _ h=>by cases h) ⟨⟨rfl,rfl⟩,trivial⟩ ⟨(by have h9:(some ⟨95,0,[.t (dA true (R.rls (R.run (t+1)) (t+1))),.t (cU true false (R.vns (R.run (t+1)) (R.exk (R.run (t+1)) t R.E false) (fun _ _=>(0:Rat)) (R.vl (t+1)))),.t (cI true false (R.run (t+1))),.t (.s true 96 1 R.E ((R.own (R.run (t+1)) (R.I (t+1)) (t+1)).map dQ))]⟩:Option Ob)=some ⟨95,0,[.t (dA true (R.rls (R.run (t+1)) (t+1))),.t (cU true false (R.vns (R.run (t+1)) (R.ex (R.run (t+1)) (t+1)) (fun _ _=>(0:Rat)) (R.vl (t+1)))),.t (cI true false (R.run (t+1))),.t (dL (R.own (R.run (t+1)) (R.I (t+1)) (t+1)))]⟩:=(by rw[hvx,dL,jP]);exact h9),trivial⟩ ⟨rfl,trivial⟩ (fun h=>by cases h) ⟨rfl,rfl⟩
def aQ (f:Nat) (ys:List Yr):Rg:=⟨f,(aT ys 0).m.length,fun y e=>pR (aT ys y).m e,fun y e=>(dM (aT ys y).b e).q,fun y=>(aT ys y).l.q⟩
section
variable {y:Yr}{ys:List Yr}{E f t N:Nat}
theorem If {l:List Bool}(h:l.length=E):(List.range E).map (pR l)=l:=by
 apply List.ext_getElem?
 intro i
 rw[List.getElem?_map]
 by_cases hi:i<E
 ·rw[List.getElem?_range hi]
  simp[pR,show i<l.length by omega]
 rw[List.getElem?_eq_none (by simp;omega),List.getElem?_eq_none (by omega)]
 rfl
theorem Tj {l:List Fr4}(h:l.length=E) (hq:∀a∈l,a=Fr4.of a.q):((List.range E).map fun e=>(dM l e).q).map Fr4.of=l:=by
 apply List.ext_getElem?
 intro i
 rw[List.getElem?_map,List.getElem?_map]
 by_cases hi:i<E
 ·rw[List.getElem?_range hi]
  have h1:i<l.length:=by omega
  have h2:dM l i=l[i]:=by simp[dM,h1]
  rw[List.getElem?_eq_getElem h1]
  show some (Fr4.of (dM l i).q)=some l[i]
  rw[h2,←hq l[i] (List.getElem_mem h1)]
 rw[List.getElem?_eq_none (by simp;omega),List.getElem?_eq_none (by omega)]
 rfl
theorem LB (hm:y.m.length=E) (hb:y.b.length=E) (hq:∀a∈y.b,a=Fr4.of a.q) (hl:y.l=Fr4.of y.l.q):fD y=[gQ ((List.range E).map (pR y.m)),sQ false (((List.range E).map fun e=>(dM y.b e).q).map Fr4.of)]++(Fr4.of y.l.q).tr false:=by
 rw[If hm,Tj hb hq,←hl]
 rfl
theorem Tk {a:Fr4}(h:a=Fr4.of a.q) (h3:a.len 3):Sz 4 a.q:=by
 unfold Fr4.len at h3
 rw[h]at h3
 exact⟨Nat.le_trans h3.1 (by omega),Nat.le_trans h3.2 (by omega)⟩
theorem FI (hn:ys.length≤10) (h6:∀y∈ys,y.m.length≤6) (hE:∀y∈ys,y.b.length=(aT ys 0).m.length) (hf:f≤40) (hb:∀y∈ys,∀a∈y.b,a=Fr4.of a.q∧a.len 3) (hl:∀y∈ys,(y.l=Fr4.of y.l.q∧y.l.len 3)∧0≤y.l.q):(aQ f ys).Ok ys.length:=by
 refine⟨fun t e ht he=>?_,fun t ht=>?_,fun t ht=>(hl _ (jA ht)).2,hn,?_,hf⟩
 ·have h1:=hE _ (jA ht)
  have h2:e<(aT ys t).b.length:=by rw[h1];exact he
  have h3:=hb _ (jA ht) (dM (aT ys t).b e) (pS h2)
  exact Tk h3.1 h3.2
 ·have h1:=hl _ (jA ht)
  exact Tk h1.1.1 h1.1.2
 cases ys with
 | nil=>exact Nat.zero_le _
 | cons y ys=>exact h6 y (List.mem_cons_self ..)
end
theorem Mo {us:List Ur}{k:Nat}(h:k<us.length):us.take (k+1)=us.take k++[dO us k]:=by rw[List.take_add_one,fI h];rfl
def mR (us:List Ur) (ent:Int):Rat:=jB us fun u=>decide (u.e=ent)
theorem CE {us:List Ur}{k:Nat}{ent:Int}(h:k<us.length):mR (us.take (k+1)) ent=if(dO us k).e=ent then mR (us.take k) ent+(dO us k).n else mR (us.take k) ent:=by
 unfold mR
 rw[Mo h,qB]
 simp only[decide_eq_true_eq]
theorem SN {us:List Ur}{ent:Int}{rw9:List Rl}{vs:List Vn}(hz:∀k,Sz 17179869184 (mR (us.take k) ent)) (hu:∀u∈us,Sz 17179869184 u.n) (hl:us.length≤1073741823):aD false Tryz.prog 15 [] [.agg [.t (dA false rw9),.t (cU false false vs),.t (cI false false us)],.one (tv (.int .i64 ent))] (aP (qF (.of (mR us ent)))):=by
 refine cC Tryz.func15 rfl Tryz.ntmps15 rfl aA rfl fun N9 w9 c0 h0=>?_
 have h00:((0:Int):Rat)=(mR (us.take 0) ent):=by simp[mR,jB,nC]
 refine sq ?_;refine rl ?_;refine bx 0 ?_;refine al 1 ?_;refine nl ?_;refine sq ?_;refine rl ?_
 refine ca (fX (z:=0) (by omega) (by omega)) mX ⟨a1 rfl,rfl⟩ (qF (.of ((0:Int):Rat))) ?_
 refine al 2 ?_;refine st ?_;refine nl ?_;refine sq ?_;refine sq ?_;refine rl ?_;refine o1 ?_;refine ld ?_;refine o1 ?_;refine o1 ?_;refine nl ?_;refine bl ?_
 refine lp (γ:=Nat) (fun s=>cA [(1,.one (tv (.int .i64 ent))),(4,.one (.pt 0 0)),(5,.one (.pt 1 0)),(10,.one (.t (cI false false us))),(11,.one (tv (.int .i64 ((us.length:Nat):Int)))),(12,.one (tv (.int .i64 ((s:Nat):Int))))]) (fun s=>[(⟨48,0,[tv (.bool false),tv (.slice none 0 0),tv (.bool false),tv (.slice none 0 0)]⟩:Ob),⟨48,0,((Fr4.of (mR (us.take s) ent)).tr false).map .t⟩].map some) (fun s=>s≤us.length) (fun s=>us.length-s) 0 (Nat.zero_le _) (aN h0 [1,2] _ _ (by decide) ⟨rfl,rfl,rfl,rfl,rfl,rfl,trivial⟩ ⟨oe rfl rfl,aI (congrArg (fun q:Rat=>some (⟨48,0,((Fr4.of q).tr false).map .t⟩:Ob)) h00),rfl⟩) ?_
 rintro k hk;refine sq ?_;refine rl ?_;refine o1 ?_;refine nl ?_;refine sq ?_;refine bM rfl (fun h1=>?_) (fun h1=>?_)
 ·refine sk ?_;refine sq ?_;refine bl ?_;refine sq ?_;refine rl ?_;refine o1 ?_
  refine dU ((hJ false) (dO us (k))) (bL (f:=(hJ false)) (z:=7) (o:=0) (fH false) (fI (by omega)) (Nat.le_of_ble_eq_true rfl) rfl) ?_
  refine al 2 ?_;refine st ?_;refine nl ?_;refine sq ?_;refine rl ?_;refine o1 ?_;refine ld ?_;refine o1 ?_;refine o1 ?_;refine nl ?_;refine bM rfl (fun h2=>?_) (fun h2=>?_)
  ·refine rl ?_;refine ld ?_;refine o1 ?_;refine ld ?_
   refine ca (Al (Qn.of (p:=(mR (us.take k) ent)) ((hz k).mono (M:=68719476736) (by omega))) (Qn.of (p:=(dO us (k)).n) ((hu _ (fR (l:=us) (i:=k) (by omega))).mono (M:=68719476736) (by omega)))) Hd ⟨aG rfl,aG rfl,rfl⟩ (qF (.of ((mR (us.take k) ent)+(dO us (k)).n))) ?_
   refine st ?_;refine nl ?_;refine rl ?_;refine o1 ?_;refine WL.cast (t:=24) (u':=.int .i64 ((k+1:Nat):Int)) rfl (aC (by omega)) ?_
   refine o1 ?_;refine nl ?_;have hst:((mR (us.take k) ent)+(dO us (k)).n)=(mR (us.take (k+1)) ent):=by rw[CE (by omega),if_pos h2]
   exact⟨k+1,by omega,by omega,aN h0 [0,1] _ _ (by decide) ⟨rfl,rfl,rfl,rfl,rfl,rfl,trivial⟩ ⟨oe rfl rfl,aI (congrArg (fun q:Rat=>some (⟨48,0,((Fr4.of q).tr false).map .t⟩:Ob)) hst),rfl⟩⟩
  refine sk ?_;refine rl ?_;refine o1 ?_;refine WL.cast (t:=24) (u':=.int .i64 ((k+1:Nat):Int)) rfl (aC (by omega)) ?_
  refine o1 ?_;refine nl ?_;have hst:(mR (us.take k) ent)=(mR (us.take (k+1)) ent):=by rw[CE (by omega),if_neg h2]
  exact⟨k+1,by omega,by omega,aN h0 [0,1] _ _ (by decide) ⟨rfl,rfl,rfl,rfl,rfl,rfl,trivial⟩ ⟨oe rfl rfl,aI (congrArg (fun q:Rat=>some (⟨48,0,((Fr4.of q).tr false).map .t⟩:Ob)) hst),rfl⟩⟩
 refine ex ?_;refine sq ?_;refine rl ?_;refine ld ?_;refine st ?_;refine nl ?_;refine rt ?_
 exact en (.inl rfl) rfl (aZ (.agg (.cons (.id rfl) (.cons (.id rfl) (.cons (.id rfl) (.cons (.id rfl) .nil)))))) (by decide) (fun h=>by cases h) (by rw[List.take_of_length_le (by omega)];rfl)
def fK (fw:Int) (ys:List Yr):Int:=if decide (fw<0)||(decide (40<fw)|| ys.any fun y=> !iM y (aT ys 0).m.length)then 2 else if 40<ys.length then 3 else 0
theorem Yn {fw:Int}{ys:List Yr}(hb:∀y∈ys,(∀a∈y.b,a.ok)∧y.l.ok∧y.b.length≤1073741823) (hl:ys.length≤1073741823) (hno:fK fw ys≠0):aD false Tryz.prog 12 [] [.one (tv (.int .i64 fw)),.one (.t (iZ ys))] (aP (.tup [.agg [.t (dA true []),.t (cU true false []),.t (cI true false [])],.one (tv (.int .i64 (fK fw ys)))])):=by
 refine cC Tryz.func12 rfl Tryz.ntmps12 rfl aA rfl fun N9 w9 c0 h0=>?_
 refine sq ?_;refine rl ?_;refine al 0 ?_;refine o1 ?_;refine nl ?_;refine sq ?_;refine rl ?_;refine al 1 ?_;refine st ?_;refine nl ?_
 refine md (γ:=Unit) (fun _=>cA [(0,.one (tv (.int .i64 fw))),(1,.one (.t (iZ ys))),(4,.one (.pt 0 0)),(6,.one (.pt 1 0))]) (fun _=>([⟨39,0,[tv (.slice none 0 0),tv (.slice none 0 0),tv (.slice none 0 0)]⟩,⟨3,0,[tv (.int .i64 (((aT ys 0).m.length:Nat):Int))]⟩]:List Ob).map some) (fun _=>True) ?_ fun _ _=>?_
 ·refine sq ?_;refine rl ?_;(iterate 3 refine o1 ?_);refine nl ?_;refine bM rfl (fun h1=>?_) (fun h1=>?_)
  ·refine rl ?_;(iterate 3 refine o1 ?_);refine dU ([gQ (aT ys (0)).m]) (bL (f:=fD) (z:=6) (o:=0) eP (dP (by omega)) (Nat.le_of_ble_eq_true rfl) rfl) ?_
   refine o1 ?_;refine st ?_;refine nl ?_;exact⟨(),trivial,aN h0 [0,1] _ _ (by decide) ⟨rfl,rfl,rfl,rfl,trivial⟩ ⟨oe rfl rfl,oe rfl rfl,rfl⟩⟩
  refine sk ?_
  exact⟨(),trivial,aN h0 [0,1] _ _ (by decide) ⟨rfl,rfl,rfl,rfl,trivial⟩ ⟨oe rfl rfl,oe rfl (by have h9:ys=[]:=(List.eq_nil_of_length_eq_zero (by omega));subst h9;rfl),rfl⟩⟩
 refine sq ?_;refine bl ?_;refine sq ?_;refine WP.sub (Ed (i:=6) (k:=1) (t:=3) (l:=[.v (.int .i64 (((aT ys 0).m.length:Nat):Int))]) rfl rfl rfl (.one .sl)) ?_;refine rl ?_
 (iterate 3 refine o1 ?_);refine WL.split (t:=25) rfl (fun h2=>?_) (fun h2=>?_)
 ·refine cM ?_;refine cM ?_;refine o1 ?_;refine o1 ?_;(iterate 3 refine cM ?_);refine o1 ?_;refine o1 ?_;refine nl ?_;refine gJ rfl ?_;refine sq ?_;refine rl ?_;refine o1 ?_
  refine st ?_;refine o1 ?_;refine nl ?_;refine rt ?_
  exact en (.inl rfl) rfl (uP (.cons (.agg (.cons (.nil (t:=62) (z:=5)) (.cons (.nil (t:=64) (z:=18)) (.cons (.nil (t:=58) (z:=7)) .nil)))) (.cons (cR _) .nil))) (by decide) (fun h=>by cases h) (congrArg (fun z:Int=>FV.tup [.agg [.t (dA true []),.t (cU true false []),.t (cI true false [])],.one (tv (.int .i64 z))]) (by simp only[fK,decide_eq_true h2,Bool.not_true,Bool.not_false,Bool.or_true,Bool.true_or,Bool.false_or,Bool.or_false,Bool.false_eq_true,if_true,if_false,ite_true,ite_false,Bool.and_true,Bool.true_and,Bool.false_and,Bool.and_false,Bool.not_not] <;> first | rfl | (simp;done) | (simp;omega)))
 (iterate 4 refine o1 ?_);refine WL.split (t:=29) rfl (fun h3=>?_) (fun h3=>?_)
 ·(iterate 3 refine cM ?_);refine o1 ?_;refine o1 ?_;refine nl ?_;refine gJ rfl ?_;refine sq ?_;refine rl ?_;refine o1 ?_;refine st ?_;refine o1 ?_;refine nl ?_;refine rt ?_
  exact en (.inl rfl) rfl (uP (.cons (.agg (.cons (.nil (t:=62) (z:=5)) (.cons (.nil (t:=64) (z:=18)) (.cons (.nil (t:=58) (z:=7)) .nil)))) (.cons (cR _) .nil))) (by decide) (fun h=>by cases h) (congrArg (fun z:Int=>FV.tup [.agg [.t (dA true []),.t (cU true false []),.t (cI true false [])],.one (tv (.int .i64 z))]) (by simp only[fK,decide_eq_false h2,decide_eq_true h3,Bool.not_true,Bool.not_false,Bool.or_true,Bool.true_or,Bool.false_or,Bool.or_false,Bool.false_eq_true,if_true,if_false,ite_true,ite_false,Bool.and_true,Bool.true_and,Bool.false_and,Bool.and_false,Bool.not_not] <;> first | rfl | (simp;done) | (simp;omega)))
 refine o1 ?_;refine o1 ?_
 refine ca (BT (xs:=ys) (dl:=(fun y=> !iM y (aT ys 0).m.length)) (fd:=36) (fst:=[]) (caps:=[.p false 3 [.v (.int .i64 (((aT ys 0).m.length:Nat):Int))]]) LC (fun y hy=>Sm (hb y hy).1 (hb y hy).2.1 (hb y hy).2.2) hl) LD ⟨a1 rfl,a1 rfl,rfl⟩ (.one (tv (.bool (ys.any (fun y=> !iM y (aT ys 0).m.length))))) ?_
 refine o1 ?_;refine o1 ?_;refine nl ?_;refine nV rfl (fun h4=>?_) (fun h4=>?_)
 ·refine sq ?_;refine rl ?_;refine o1 ?_;refine st ?_;refine o1 ?_;refine nl ?_;refine rt ?_
  exact en (.inl rfl) rfl (uP (.cons (.agg (.cons (.nil (t:=62) (z:=5)) (.cons (.nil (t:=64) (z:=18)) (.cons (.nil (t:=58) (z:=7)) .nil)))) (.cons (cR _) .nil))) (by decide) (fun h=>by cases h) (congrArg (fun z:Int=>FV.tup [.agg [.t (dA true []),.t (cU true false []),.t (cI true false [])],.one (tv (.int .i64 z))]) (by simp only[fK,decide_eq_false h2,decide_eq_false h3,h4,Bool.not_true,Bool.not_false,Bool.or_true,Bool.true_or,Bool.false_or,Bool.or_false,Bool.false_eq_true,if_true,if_false,ite_true,ite_false,Bool.and_true,Bool.true_and,Bool.false_and,Bool.and_false,Bool.not_not] <;> first | rfl | (simp;done) | (simp;omega)))
 refine sq ?_;refine rl ?_;(iterate 4 refine o1 ?_);refine nl ?_;refine bM rfl (fun h5=>?_) (fun h5=>?_)
 ·refine sq ?_;refine rl ?_;refine o1 ?_;refine st ?_;refine o1 ?_;refine nl ?_;refine rt ?_
  exact en (.inl rfl) rfl (uP (.cons (.agg (.cons (.nil (t:=62) (z:=5)) (.cons (.nil (t:=64) (z:=18)) (.cons (.nil (t:=58) (z:=7)) .nil)))) (.cons (cR _) .nil))) (by decide) (fun h=>by cases h) (congrArg (fun z:Int=>FV.tup [.agg [.t (dA true []),.t (cU true false []),.t (cI true false [])],.one (tv (.int .i64 z))]) (by simp only[fK,decide_eq_false h2,decide_eq_false h3,h4,decide_eq_true h5,Bool.not_true,Bool.not_false,Bool.or_true,Bool.true_or,Bool.false_or,Bool.or_false,Bool.false_eq_true,if_true,if_false,ite_true,ite_false,Bool.and_true,Bool.true_and,Bool.false_and,Bool.and_false,Bool.not_not] <;> first | rfl | (simp;done) | (simp;omega)))
 refine sk ?_
 exact absurd (show fK fw ys=0 by unfold fK;simp only[decide_eq_false h2,decide_eq_false h3,h4,decide_eq_false h5,Bool.not_true,Bool.not_false,Bool.or_true,Bool.true_or,Bool.false_or,Bool.or_false,Bool.false_eq_true,if_true,if_false,ite_true,ite_false,Bool.and_true,Bool.true_and,Bool.false_and,Bool.and_false,Bool.not_not] <;> first | rfl | (simp;done) | (simp;omega)) hno
def Rg.cl (R:Rg) (U:List Ur) (n y e:Nat):Rat:=if n≤y+R.f then R.left U y e else 0
def Rg.clk (R:Rg) (U:List Ur) (n q k y e:Nat):Rat:=if e<q∨(e=q∧(((R.wl U q (R.I n)).take k).any fun x=>decide (x.1=(y:Int)))=true)then R.cl U n y e else 0
def Rg.vnE (R:Rg) (n:Nat):List Vn:=R.vns (R.run n) (R.ex (R.run n) n) (R.cl (R.run n) n) (R.vl n)
section
variable {R:Rg}{U:List Ur}{N n q k y e j:Nat}
theorem Yo:R.clk U n 0 0=fun _ _=>0:=by
 funext y e
 unfold Rg.clk
 rw[if_neg (by simp)]
theorem Yp:R.clk U n (q+1) 0 y e=if e≤q then R.cl U n y e else 0:=by
 unfold Rg.clk
 by_cases h:e≤q
 ·rw[if_pos h,if_pos (.inl (by omega))]
 rw[if_neg h,if_neg (by simp;omega)]
theorem Yq (hI:R.Iv n U) (hk:(R.wl U q (R.I n)).length≤k) (hq:q<R.E) (hy:y<n):R.clk U n q k y e=R.clk U n (q+1) 0 y e:=by
 rw[Yp]
 unfold Rg.clk
 rw[List.take_of_length_le hk]
 by_cases h:e<q
 ·rw[if_pos (.inl h),if_pos (by omega)]
 by_cases h2:e=q
 ·subst h2
  rw[if_pos (Nat.le_refl e)]
  split
  ·rfl
  rename_i h3
  have h4:¬((R.wl U e (R.I n)).any fun x=>decide (x.1=(y:Int)))=true:=fun h5=>h3 (.inr ⟨rfl,h5⟩)
  unfold Rg.cl
  split
  ·rename_i h5
   have h6:=(hI.v y e hy hq).1.1
   by_cases h7:0<R.left U y e
   ·exact absurd (List.any_eq_true.2 ⟨((y:Int),R.left U y e),iG.2 ⟨y,jM.2 ⟨hy,h5⟩,rfl,h7⟩,by simp⟩) h4
   grind
  rfl
 rw[if_neg (by simp;omega),if_neg (by omega)]
theorem Ys (he:e<R.E):R.clk U n R.E 0 y e=R.cl U n y e:=if_pos (.inl he)
theorem PZ (hk:k<(R.wl U q (R.I n)).length):∃j:Nat,aJ (R.wl U q (R.I n)) k=((j:Int),R.left U j q)∧0<R.left U j q∧j<n∧n≤j+R.f:=by
 obtain⟨i,hi,hx,h0⟩:=iG.1 (mY hk)
 have:=jM.1 hi
 exact⟨i,hx,h0,this.1,this.2⟩
theorem FJ (hk:k<(R.wl U q (R.I n)).length) (hx:aJ (R.wl U q (R.I n)) k=((j:Int),R.left U j q)) (hj:n≤j+R.f):R.clk U n q (k+1) j q=R.left U j q:=by
 unfold Rg.clk Rg.cl
 rw[kU hk,hx,if_pos (.inr ⟨rfl,by simp⟩),if_pos hj]
theorem Yt (hk:k<(R.wl U q (R.I n)).length) (hx:aJ (R.wl U q (R.I n)) k=((j:Int),R.left U j q)) (hne:¬(y=j∧e=q)):R.clk U n q k y e=R.clk U n q (k+1) y e:=by
 unfold Rg.clk
 rw[kU hk,hx,List.any_append]
 by_cases h:e=q
 ·have h2:¬(j:Int)=(y:Int):=by omega
  have h3:List.any [((j:Int),R.left U j q)] (fun x=>decide (x.1=(y:Int)))=false:=by
   rw[List.any_cons,List.any_nil,Bool.or_false]
   exact decide_eq_false h2
  rw[h3,Bool.or_false]
 simp[h]
theorem Ig {x c x' c':Nat→Nat→Rat}{L:List (Nat×Nat)}(h:∀p∈L,x p.1 p.2=x' p.1 p.2∧c p.1 p.2=c' p.1 p.2):R.vns U x c L=R.vns U x' c' L:=List.map_congr_left fun p hp=>by
 unfold Rg.vn
 rw[(h p hp).1,(h p hp).2]
end
theorem Tl {a:Fr4}(ha:a.ok) (h:Lz a=true):a=Fr4.of a.q:=(Qn.right (⟨ha,rfl⟩:Qn a a.q) h).symm
theorem Yu {fw:Int}{ys:List Yr}(hb:∀y∈ys,(∀a∈y.b,a.ok)∧y.l.ok) (h:fK fw ys=0):0≤fw∧fw≤40∧ys.length≤40∧∀y∈ys,y.m.length=(aT ys 0).m.length∧y.b.length=(aT ys 0).m.length∧(∀a∈y.b,a=Fr4.of a.q)∧y.l=Fr4.of y.l.q∧0≤y.l.q:=by
 unfold fK at h
 split at h
 ·cases h
 rename_i h1
 split at h
 ·cases h
 rename_i h2
 simp only[Bool.or_eq_true,decide_eq_true_eq,not_or]at h1
 refine⟨by omega,by omega,by omega,fun y hy=>?_⟩
 have h3:=h1.2.2
 rw[Bool.not_eq_true,List.any_eq_false]at h3
 have h4:=h3 y hy
 simp only[Bool.not_eq_true,Bool.not_eq_false']at h4
 unfold iM at h4
 simp only[Bool.and_eq_true,decide_eq_true_eq,Bool.not_eq_true']at h4
 obtain⟨a1,a2,a3,a4,a5⟩:=h4
 rw[List.any_eq_false]at a3
 exact⟨by omega,by omega,fun a ha=>Tl ((hb y hy).1 a ha) (by simpa using a3 a ha),Tl (hb y hy).2 a4,by
  rcases Rat.le_total (a:=0) (b:=y.l.q)with h5 | h5
  ·exact h5
  rcases Rat.le_iff_lt_or_eq.1 h5 with h6 | h6
  ·have:=(yU y.l.q).2 h6
   omega
  rw[h6];exact Rat.le_refl⟩
def nD (k:Nat):List (List (Int×Rat)×Int×Bool):=List.replicate k ([],0,false)
theorem tK {k:Nat}:(nD k).length=k:=List.length_replicate ..
theorem sB {k:Nat}:(((nD k).map dQ).map AV.t).length=k:=by rw[List.length_map,List.length_map,tK]
theorem LE {k:Nat}{a:AV}:(((nD k).map dQ).map AV.t++[a])[k]? =some a:=by
 rw[List.getElem?_append_right (by rw[sB];exact Nat.le_refl k),sB,Nat.sub_self]
 rfl
theorem FK {k:Nat}{a:AV}:(((nD k).map dQ).map AV.t++[a]).set k (.t (dQ ([],0,false)))=((nD (k+1)).map dQ).map .t:=by
 rw[List.set_append_right _ _ (by rw[sB];exact Nat.le_refl k),sB,Nat.sub_self]
 unfold nD
 rw[List.replicate_succ']
 simp
theorem Yv {R:Rg}:dL (R.own (R.run 0) (R.I 0) 0)=.s true 96 1 R.E ((nD R.E).map dQ):=by
 have h:R.own (R.run 0) (R.I 0) 0=nD R.E:=by
  have h1:R.own (R.run 0) (R.I 0) 0=(List.range R.E).map fun _=>(([]:List (Int×Rat)),(0:Int),false):=by
   have h0:R.I 0=[]:=by unfold Rg.I;rw[Nat.zero_sub];rfl
   rw[h0]
   rfl
  rw[h1,List.map_const',List.length_range]
  rfl
 rw[h,dL,tK]
theorem FL {R:Rg}{ys:List Yr}(hb:∀y∈ys,(∀a∈y.b,a.ok)∧y.l.ok∧y.b.length≤1073741823) (hno:fK ((R.f:Nat):Int) ys=0) (hE9:(aT ys 0).m.length=R.E) (hOk:R.Ok ys.length) (hyq:∀t,t<ys.length→fD (aT ys t)=R.yrq t):aD false Tryz.prog 12 [] [.one (tv (.int .i64 ((R.f:Nat):Int))),.one (.t (iZ ys))] (aP (.tup [.agg [.t (dA true (R.rls (R.run ys.length) ys.length)),.t (cU true false (R.vnE ys.length)),.t (cI true false (R.run ys.length))],.one (tv (.int .i64 0))])):=by
 refine cC Tryz.func12 rfl Tryz.ntmps12 rfl aA rfl fun N9 w9 c0 h0=>?_
 have hl:ys.length≤1073741823:=by have:=hOk.n;omega
 have hE6:=hOk.e;have hN:=hOk.n;have hF:=hOk.f
 refine sq ?_;refine rl ?_;refine al 0 ?_;refine o1 ?_;refine nl ?_;refine sq ?_;refine rl ?_;refine al 1 ?_;refine st ?_;refine nl ?_
 refine md (γ:=Unit) (fun _=>cA [(0,.one (tv (.int .i64 ((R.f:Nat):Int)))),(1,.one (.t (iZ ys))),(4,.one (.pt 0 0)),(6,.one (.pt 1 0))]) (fun _=>([⟨39,0,[tv (.slice none 0 0),tv (.slice none 0 0),tv (.slice none 0 0)]⟩,⟨3,0,[tv (.int .i64 (((aT ys 0).m.length:Nat):Int))]⟩]:List Ob).map some) (fun _=>True) ?_ fun _ _=>?_
 ·refine sq ?_;refine rl ?_;(iterate 3 refine o1 ?_);refine nl ?_;refine bM rfl (fun h1=>?_) (fun h1=>?_)
  ·refine rl ?_;(iterate 3 refine o1 ?_);refine dU ([gQ (aT ys (0)).m]) (bL (f:=fD) (z:=6) (o:=0) eP (dP (by omega)) (Nat.le_of_ble_eq_true rfl) rfl) ?_
   refine o1 ?_;refine st ?_;refine nl ?_;exact⟨(),trivial,aN h0 [0,1] _ _ (by decide) ⟨rfl,rfl,rfl,rfl,trivial⟩ ⟨oe rfl rfl,oe rfl rfl,rfl⟩⟩
  refine sk ?_
  exact⟨(),trivial,aN h0 [0,1] _ _ (by decide) ⟨rfl,rfl,rfl,rfl,trivial⟩ ⟨oe rfl rfl,oe rfl (by have h9:ys=[]:=(List.eq_nil_of_length_eq_zero (by omega));subst h9;rfl),rfl⟩⟩
 refine sq ?_;refine bl ?_;refine sq ?_;refine WP.sub (Ed (i:=6) (k:=1) (t:=3) (l:=[.v (.int .i64 (((aT ys 0).m.length:Nat):Int))]) rfl rfl rfl (.one .sl)) ?_;refine rl ?_
 (iterate 3 refine o1 ?_);refine WL.split (t:=25) rfl (fun h2=>?_) (fun h2=>?_)
 ·refine cM ?_;refine cM ?_;refine o1 ?_;refine o1 ?_;(iterate 3 refine cM ?_);refine o1 ?_;refine o1 ?_;refine nl ?_;refine gJ rfl ?_;refine sq ?_;refine rl ?_;refine o1 ?_
  refine st ?_;refine o1 ?_;refine nl ?_;refine rt ?_
  exact absurd (hno.symm.trans (show fK ((R.f:Nat):Int) ys=2 by simp only[fK,decide_eq_true h2,Bool.not_true,Bool.not_false,Bool.or_true,Bool.true_or,Bool.false_or,Bool.or_false,Bool.false_eq_true,if_true,if_false,ite_true,ite_false,Bool.and_true,Bool.true_and,Bool.false_and,Bool.and_false,Bool.not_not] <;> first | rfl | (simp;done) | (simp;omega))) (by decide)
 (iterate 4 refine o1 ?_);refine WL.split (t:=29) rfl (fun h3=>?_) (fun h3=>?_)
 ·(iterate 3 refine cM ?_);refine o1 ?_;refine o1 ?_;refine nl ?_;refine gJ rfl ?_;refine sq ?_;refine rl ?_;refine o1 ?_;refine st ?_;refine o1 ?_;refine nl ?_;refine rt ?_
  exact absurd (hno.symm.trans (show fK ((R.f:Nat):Int) ys=2 by simp only[fK,decide_eq_false h2,decide_eq_true h3,Bool.not_true,Bool.not_false,Bool.or_true,Bool.true_or,Bool.false_or,Bool.or_false,Bool.false_eq_true,if_true,if_false,ite_true,ite_false,Bool.and_true,Bool.true_and,Bool.false_and,Bool.and_false,Bool.not_not] <;> first | rfl | (simp;done) | (simp;omega))) (by decide)
 refine o1 ?_;refine o1 ?_
 refine ca (BT (xs:=ys) (dl:=(fun y=> !iM y (aT ys 0).m.length)) (fd:=36) (fst:=[]) (caps:=[.p false 3 [.v (.int .i64 (((aT ys 0).m.length:Nat):Int))]]) LC (fun y hy=>Sm (hb y hy).1 (hb y hy).2.1 (hb y hy).2.2) hl) LD ⟨a1 rfl,a1 rfl,rfl⟩ (.one (tv (.bool (ys.any (fun y=> !iM y (aT ys 0).m.length))))) ?_
 refine o1 ?_;refine o1 ?_;refine nl ?_;refine nV rfl (fun h4=>?_) (fun h4=>?_)
 ·refine sq ?_;refine rl ?_;refine o1 ?_;refine st ?_;refine o1 ?_;refine nl ?_;refine rt ?_
  exact absurd (hno.symm.trans (show fK ((R.f:Nat):Int) ys=2 by simp only[fK,decide_eq_false h2,decide_eq_false h3,h4,Bool.not_true,Bool.not_false,Bool.or_true,Bool.true_or,Bool.false_or,Bool.or_false,Bool.false_eq_true,if_true,if_false,ite_true,ite_false,Bool.and_true,Bool.true_and,Bool.false_and,Bool.and_false,Bool.not_not] <;> first | rfl | (simp;done) | (simp;omega))) (by decide)
 refine sq ?_;refine rl ?_;(iterate 4 refine o1 ?_);refine nl ?_;refine bM rfl (fun h5=>?_) (fun h5=>?_)
 ·refine sq ?_;refine rl ?_;refine o1 ?_;refine st ?_;refine o1 ?_;refine nl ?_;refine rt ?_
  exact absurd (hno.symm.trans (show fK ((R.f:Nat):Int) ys=3 by simp only[fK,decide_eq_false h2,decide_eq_false h3,h4,decide_eq_true h5,Bool.not_true,Bool.not_false,Bool.or_true,Bool.true_or,Bool.false_or,Bool.or_false,Bool.false_eq_true,if_true,if_false,ite_true,ite_false,Bool.and_true,Bool.true_and,Bool.false_and,Bool.and_false,Bool.not_not] <;> first | rfl | (simp;done) | (simp;omega))) (by decide)
 refine sk ?_;refine sq ?_;refine rl ?_;refine o1 ?_;refine bx 2 ?_;refine o1 ?_;refine nl ?_;refine sq ?_;refine sq ?_;refine WP.sub (Ha (i:=6) rfl rfl) ?_
 refine WP.sub ((Md (j:=2) (key:=3) (e:=62) (z:=5) rfl rfl rfl (.sl (.id (.id (.id .nil))))).trans (iU (j:=2) (k:=3) (p:=0) (e:=62) (z:=5) (n:=0) (trs:=[]) rfl rfl rfl rfl rfl rfl rfl rfl)) ?_
 refine WP.sub ((Md (j:=2) (key:=4) (e:=64) (z:=18) rfl rfl rfl (.id (.sl (.id (.id .nil))))).trans (iU (j:=2) (k:=4) (p:=1) (e:=64) (z:=18) (n:=0) (trs:=[]) rfl rfl rfl rfl rfl rfl rfl rfl)) ?_
 refine WP.sub ((Md (j:=2) (key:=5) (e:=58) (z:=7) rfl rfl rfl (.id (.id (.sl (.id .nil))))).trans (iU (j:=2) (k:=5) (p:=2) (e:=58) (z:=7) (n:=0) (trs:=[]) rfl rfl rfl rfl rfl rfl rfl rfl)) ?_
 refine WP.sub (Md (j:=2) (key:=6) (e:=96) (z:=1) rfl rfl rfl (.id (.id (.id (.sl .nil))))) ?_;refine rl ?_
 refine dU ([.v (.int .i64 (((aT ys 0).m.length:Nat):Int))]) rfl ?_;refine WL.cast (t:=42) (u':=.int .i64 ((R.E:Nat):Int)) rfl (aC (by rw[hE9])) ?_
 refine o1 ?_;refine nl ?_;refine bl ?_
 refine lp (γ:=Nat) (fun s=>cA [(0,.one (tv (.int .i64 ((R.f:Nat):Int)))),(1,.one (.t (iZ ys))),(4,.one (.pt 0 0)),(7,.one (.pt 1 0)),(42,.one (tv (.int .i64 ((R.E:Nat):Int)))),(43,.one (tv (.int .i64 ((s:Nat):Int))))]) (fun s=>[(⟨39,0,[tv (.slice none 0 0),tv (.slice none 0 0),tv (.slice none 0 0)]⟩:Ob),⟨95,0,[.t (dA true (R.rls (R.run 0) 0)),.t (cU true false (R.vns (R.run 0) (R.ex (R.run 0) 0) (fun _ _=>(0:Rat)) (R.vl 0))),.t (cI true false (R.run 0)),.sl 2 0 s]⟩,⟨96,1,((nD s).map dQ).map .t⟩].map some) (fun s=>s≤R.E) (fun s=>R.E-s) 0 (Nat.zero_le _) (aN h0 [0,2,6] _ _ (by decide) ⟨rfl,rfl,rfl,rfl,rfl,rfl,trivial⟩ ⟨oe rfl rfl,oe rfl rfl,aI rfl,rfl⟩) ?_
 rintro k hk;refine sq ?_;refine rl ?_;refine o1 ?_;refine nl ?_;refine sq ?_;refine bM rfl (fun h6=>?_) (fun h6=>?_)
 ·refine sk ?_;refine sq ?_;refine bl ?_;refine rd [0,1] (fun i=>[8,9,10].contains i) mixed ?_
  refine dv 0 ?_;refine dv 1 ?_;refine dv 2 ?_;refine dv 3 ?_;refine aR 4 ?_;refine lN 3 5 rfl (PH) SO rfl ?_
  refine kN (key:=4) 6 (by kernel_rfl) rfl rfl aA rfl ⟨rfl,rfl,trivial⟩ ?_
  refine oB (j:=5) (n:=k) (l:=((nD k).map dQ).map .t) 7 rfl aA rfl rfl rfl (.sl rfl (by rw[sB,Nat.mul_one])) (.sl rfl rfl rfl) rfl rfl (by omega) (by omega) rfl ⟨rfl,rfl,trivial⟩ rfl (by kernel_rfl) rfl ?_
  refine eR 8 (by kernel_rfl) rfl rfl aA rfl (by trivial) ?_ (fun h=>by first | rfl | cases h)
  refine eR 9 (by kernel_rfl) rfl rfl aA rfl (by trivial) ?_ (fun h=>by first | rfl | cases h)
  refine dst 10 ?_;refine aS ?_
  refine WP.sub (Ci (j:=5) (k:=3) (p:=k) (e:=137) (trs:=[sR 102 [],.v (.int .i64 0),.v (.bool false)]) (l':=((nD (k+1)).map dQ).map .t) rfl rfl rfl LE FK) ?_
  refine rl ?_;refine o1 ?_;refine WL.cast (t:=55) (u':=.int .i64 ((k+1:Nat):Int)) rfl (aC (by omega)) ?_
  refine o1 ?_;refine nl ?_;exact⟨k+1,by omega,by omega,aN h0 [0,1,5] _ _ (by decide) ⟨rfl,rfl,rfl,rfl,rfl,rfl,trivial⟩ ⟨oe rfl rfl,oe rfl rfl,aI rfl,rfl⟩⟩
 refine ex ?_;refine sq ?_;refine sq ?_;have hkE:k=R.E:=by omega
 subst hkE
 refine WP.sub (iU (j:=1) (k:=2) (p:=3) (e:=96) (z:=1) (n:=R.E) (trs:=(nD R.E).map dQ) rfl rfl rfl rfl rfl (cD _ _ (by rw[List.length_map,tK,Nat.mul_one])) (by rw[List.length_map,tK,Nat.mul_one]) rfl) ?_
 refine rl ?_;(iterate 3 refine o1 ?_);refine nl ?_;refine bl ?_
 refine lp (γ:=Nat) (fun s=>cA [(0,.one (tv (.int .i64 ((R.f:Nat):Int)))),(4,.one (.pt 0 0)),(7,.one (.pt 1 0)),(56,.one (.t (iZ ys))),(57,.one (tv (.int .i64 ((ys.length:Nat):Int)))),(58,.one (tv (.int .i64 ((s:Nat):Int))))]) (fun s=>[(⟨39,0,[tv (.slice none 0 0),tv (.slice none 0 0),tv (.slice none 0 0)]⟩:Ob),⟨95,0,[.t (dA true (R.rls (R.run s) s)),.t (cU true false (R.vns (R.run s) (R.ex (R.run s) s) (fun _ _=>(0:Rat)) (R.vl s))),.t (cI true false (R.run s)),.t (dL (R.own (R.run s) (R.I s) s))]⟩].map some) (fun s=>s≤ys.length) (fun s=>ys.length-s) 0 (Nat.zero_le _) (aN h0 [0,1] _ _ (by decide) ⟨rfl,rfl,rfl,rfl,rfl,rfl,trivial⟩ ⟨oe rfl rfl,oe rfl (by have h9:(some ⟨95,0,[.t (dA true (R.rls (R.run 0) 0)),.t (cU true false (R.vns (R.run 0) (R.ex (R.run 0) 0) (fun _ _=>(0:Rat)) (R.vl 0))),.t (cI true false (R.run 0)),.t (.s true 96 1 R.E ((nD R.E).map dQ))]⟩:Option Ob)=some ⟨95,0,[.t (dA true (R.rls (R.run 0) 0)),.t (cU true false (R.vns (R.run 0) (R.ex (R.run 0) 0) (fun _ _=>(0:Rat)) (R.vl 0))),.t (cI true false (R.run 0)),.t (dL (R.own (R.run 0) (R.I 0) 0))]⟩:=(by rw[Yv]);exact h9),rfl⟩) ?_
 rintro t ht;refine sq ?_;refine rl ?_;refine o1 ?_;refine nl ?_;refine sq ?_;refine bM rfl (fun h7=>?_) (fun h7=>?_)
 ·refine sk ?_;refine sq ?_;refine bl ?_;refine sq ?_;refine rl ?_;refine o1 ?_;refine o1 ?_
  refine dU (R.yrq t) ((by rw[←hyq t (by omega)];exact(bL (f:=fD) (z:=6) (o:=0) eP (dP (by omega)) (Nat.le_of_ble_eq_true rfl) rfl))) ?_
  refine al 2 ?_;refine o1 ?_;refine st ?_;refine nl ?_;refine rl ?_;(iterate 3 refine o1 ?_);refine ld ?_
  refine cl 3 [1] (KX (t:=t) hOk (by omega)) SP ⟨oe rfl rfl,rfl⟩ ⟨rfl,rfl,rfl,rfl,rfl⟩ (ok:=[some ⟨95,0,[.t (dA true (R.rls (R.run (t+1)) (t+1))),.t (cU true false (R.vns (R.run (t+1)) (R.ex (R.run (t+1)) (t+1)) (fun _ _=>(0:Rat)) (R.vl (t+1)))),.t (cI true false (R.run (t+1))),.t (dL (R.own (R.run (t+1)) (R.I (t+1)) (t+1)))]⟩]) ⟨oe rfl rfl,rfl⟩ ?_
  refine nl ?_;refine rl ?_;refine o1 ?_;refine WL.cast (t:=68) (u':=.int .i64 ((t+1:Nat):Int)) rfl (aC (by omega)) ?_
  refine o1 ?_;refine nl ?_;exact⟨t+1,by omega,by omega,aN h0 [0,1] _ _ (by decide) ⟨rfl,rfl,rfl,rfl,rfl,rfl,trivial⟩ ⟨oe rfl rfl,oe rfl rfl,rfl⟩⟩
 refine ex ?_;refine sq ?_;refine sq ?_;have htt:t=ys.length:=by omega
 subst htt;have hIv:=hOk.run (Nat.le_refl ys.length)
 have hvl9:=qA (R:=R) hE6 ys.length
 have hck0:(R.vns (R.run ys.length) (R.ex (R.run ys.length) ys.length) (fun _ _=>(0:Rat)) (R.vl ys.length))=(R.vns (R.run ys.length) (R.ex (R.run ys.length) ys.length) (R.clk (R.run ys.length) ys.length 0 0) (R.vl ys.length)):=by rw[Yo]
 refine WP.sub (nX (j:=1) (key:=2) (p:=1) (e:=64) (z:=18) (n:=(R.vns (R.run ys.length) (R.ex (R.run ys.length) ys.length) (fun _ _=>(0:Rat)) (R.vl ys.length)).length) (trs:=(R.vns (R.run ys.length) (R.ex (R.run ys.length) ys.length) (fun _ _=>(0:Rat)) (R.vl ys.length)).flatMap (eE false)) rfl rfl rfl rfl rfl) ?_
 refine WP.sub (nX (j:=1) (key:=3) (p:=3) (e:=96) (z:=1) (n:=(R.own (R.run ys.length) (R.I ys.length) ys.length).length) (trs:=(R.own (R.run ys.length) (R.I ys.length) ys.length).map dQ) rfl rfl rfl rfl rfl) ?_
 refine rl ?_;(iterate 3 refine o1 ?_);refine ld ?_;refine o1 ?_;refine o1 ?_;refine nl ?_;refine bl ?_
 refine lp (γ:=Nat) (fun s=>cA [(4,.one (.pt 0 0)),(7,.one (.pt 1 0)),(72,.one (.sl 3 0 (R.E))),(73,.one (tv (.int .i64 ((R.E:Nat):Int)))),(74,.one (tv (.int .i64 ((s:Nat):Int))))]) (fun s=>[(⟨39,0,[tv (.slice none 0 0),tv (.slice none 0 0),tv (.slice none 0 0)]⟩:Ob),⟨95,0,[.t (dA true (R.rls (R.run ys.length) ys.length)),.sl 2 0 (R.vl ys.length).length,.t (cI true false (R.run ys.length)),.sl 3 0 R.E]⟩,⟨64,18,((R.vns (R.run ys.length) (R.ex (R.run ys.length) ys.length) (R.clk (R.run ys.length) ys.length s 0) (R.vl ys.length)).flatMap (eE false)).map .t⟩,⟨96,1,((R.own (R.run ys.length) (R.I ys.length) ys.length).map dQ).map .t⟩].map some) (fun s=>s≤R.E) (fun s=>R.E-s) 0 (Nat.zero_le _) (aN h0 [0,1,2,3] _ _ (by decide) ⟨rfl,rfl,(by rw[jP];rfl),Gy (by rw[jP]),rfl,trivial⟩ ⟨oe rfl rfl,oe rfl (by have h9:(some ⟨95,0,[.t (dA true (R.rls (R.run ys.length) ys.length)),.sl 2 0 (R.vns (R.run ys.length) (R.ex (R.run ys.length) ys.length) (fun _ _=>(0:Rat)) (R.vl ys.length)).length,.t (cI true false (R.run ys.length)),.sl 3 0 (R.own (R.run ys.length) (R.I ys.length) ys.length).length]⟩:Option Ob)=some ⟨95,0,[.t (dA true (R.rls (R.run ys.length) ys.length)),.sl 2 0 (R.vl ys.length).length,.t (cI true false (R.run ys.length)),.sl 3 0 R.E]⟩:=(by rw[eQ,jP]);exact h9),aI (congrArg (fun l:List Vn=>some (⟨64,18,(l.flatMap (eE false)).map .t⟩:Ob)) hck0),aI rfl,rfl⟩) ?_
 rintro q hq;refine sq ?_;refine rl ?_;refine o1 ?_;refine nl ?_;refine sq ?_;refine bM rfl (fun h8=>?_) (fun h8=>?_)
 ·refine sk ?_;refine sq ?_;refine bl ?_;refine sq ?_;have hq9:q<R.E:=by omega
  have hwl:=rZ (R:=R) (U:=(R.run ys.length)) (e:=q) (I:=R.I ys.length)
  have hIl:=rY (R:=R) (k:=ys.length)
  have hle9:cX (R.own (R.run ys.length) (R.I ys.length) ys.length) q=((R.wl (R.run ys.length) q (R.I ys.length)),(R.lp q ys.length).1,(R.lp q ys.length).2):=Ck hq9
  have hol9:(R.own (R.run ys.length) (R.I ys.length) ys.length).length=R.E:=jP
  have hzz:∀x∈(R.wl (R.run ys.length) q (R.I ys.length)),Sz 68719476736 x.2:=fun x hx=>by obtain⟨i,hi,rfl,_⟩:=iG.1 hx;exact(hIv.sz_left hOk (jM.1 hi).1 hq9).mono (by omega)
  refine WP.sub (Hu (j:=3) (key:=4) (p:=q) (e:=137) (trs:=[sR 102 (R.wl (R.run ys.length) q (R.I ys.length)),.v (.int .i64 (R.lp q ys.length).1),.v (.bool (R.lp q ys.length).2)]) rfl rfl (by rw[xC (by omega),hle9];rfl) rfl) ?_
  refine rl ?_;refine o1 ?_;refine o1 ?_
  refine Lu (l:=(((R.own (R.run ys.length) (R.I ys.length) ys.length).map dQ).map AV.t).set q (.pt 4 0)) (v:=.pt 4 0) (Ak (by rw[jY];omega)) ?_
  refine o1 ?_;refine o1 ?_;refine nl ?_;refine sq ?_;refine rl ?_;refine o1 ?_
  refine iY 5 (Ss (vs:=(R.wl (R.run ys.length) q (R.I ys.length))) (rest:=[.v (.int .i64 (R.lp q ys.length).1),.v (.bool (R.lp q ys.length).2)]) hzz (by omega)) KN ⟨uQ rfl (.pe (trs:=[sR 102 (R.wl (R.run ys.length) q (R.I ys.length)),.v (.int .i64 (R.lp q ys.length).1),.v (.bool (R.lp q ys.length).2)]) rfl rfl rfl (by simp only[rdTL,rX,sR,sV,xB])),rfl⟩ ?_
  refine o1 ?_;refine o1 ?_;refine nl ?_;refine bl ?_
  refine WP.sub (KL (i:=80) (k:=5) (n:=(R.wl (R.run ys.length) q (R.I ys.length)).length) 102 rfl rfl rfl (bJ true _) (xB true _) (.one .sl)) ?_
  refine WP.sub (Ci (j:=3) (k:=4) (p:=q) (e:=137) (trs:=[sR 102 (R.wl (R.run ys.length) q (R.I ys.length)),.v (.int .i64 (R.lp q ys.length).1),.v (.bool (R.lp q ys.length).2)]) (l':=((R.own (R.run ys.length) (R.I ys.length) ys.length).map dQ).map .t) rfl rfl rfl (List.getElem?_set_self (by rw[jY];omega)) (Mj (x:=((R.wl (R.run ys.length) q (R.I ys.length)),(R.lp q ys.length).1,(R.lp q ys.length).2)) (by omega) hle9)) ?_
  refine lp (γ:=Nat) (fun s=>cA [(4,.one (.pt 0 0)),(7,.one (.pt 1 0)),(10,.one (tv (.int .i64 ((q:Nat):Int)))),(72,.one (.sl 3 0 (R.E))),(73,.one (tv (.int .i64 ((R.E:Nat):Int)))),(74,.one (tv (.int .i64 ((q:Nat):Int)))),(80,.one (.t (sV 102 false (R.wl (R.run ys.length) q (R.I ys.length))))),(81,.one (tv (.int .i64 (((R.wl (R.run ys.length) q (R.I ys.length)).length:Nat):Int)))),(82,.one (tv (.int .i64 ((s:Nat):Int))))]) (fun s=>[(⟨39,0,[tv (.slice none 0 0),tv (.slice none 0 0),tv (.slice none 0 0)]⟩:Ob),⟨95,0,[.t (dA true (R.rls (R.run ys.length) ys.length)),.sl 2 0 (R.vl ys.length).length,.t (cI true false (R.run ys.length)),.sl 3 0 R.E]⟩,⟨64,18,((R.vns (R.run ys.length) (R.ex (R.run ys.length) ys.length) (R.clk (R.run ys.length) ys.length q s) (R.vl ys.length)).flatMap (eE false)).map .t⟩,⟨96,1,((R.own (R.run ys.length) (R.I ys.length) ys.length).map dQ).map .t⟩].map some) (fun s=>s≤(R.wl (R.run ys.length) q (R.I ys.length)).length) (fun s=>(R.wl (R.run ys.length) q (R.I ys.length)).length-s) 0 (Nat.zero_le _) (aN h0 [0,1,2,3] _ _ (by decide) ⟨rfl,rfl,rfl,rfl,rfl,rfl,rfl,rfl,rfl,trivial⟩ ⟨oe rfl rfl,oe rfl rfl,aI rfl,aI rfl,rfl⟩) ?_
  rintro k hk;refine sq ?_;refine rl ?_;refine o1 ?_;refine nl ?_;refine sq ?_;refine bM rfl (fun h9=>?_) (fun h9=>?_)
  ·refine sk ?_;refine sq ?_;refine bl ?_;refine sq ?_;refine rl ?_;refine o1 ?_
   refine dU (cF false (aJ (R.wl (R.run ys.length) q (R.I ys.length)) (k))) (rW false (by omega)) ?_
   refine al 4 ?_;refine st ?_;refine nl ?_;obtain⟨j,hx,hj0,hjn,hjf⟩:=PZ (R:=R) (U:=(R.run ys.length)) (q:=q) (n:=ys.length) (k:=k) (by omega)
   have hx1:(aJ (R.wl (R.run ys.length) q (R.I ys.length)) (k)).1=((j:Nat):Int):=by rw[hx]
   have hx2:(aJ (R.wl (R.run ys.length) q (R.I ys.length)) (k)).2=R.left (R.run ys.length) j q:=by rw[hx]
   have hjv:R.isV j q=true:=by
    have h6:=(hIv.v j q hjn hq9).1.2
    cases h8:R.isV j q
    ·rw[Am h8]at h6
     grind
    rfl
   have hjm:(j,q)∈(R.vl ys.length):=fM.2 ⟨hjn,hq9,hjv⟩
   have hfi:(cN (bZ (aJ (R.wl (R.run ys.length) q (R.I ys.length)) (k)).1 ((q:Nat):Int)) (R.vns (R.run ys.length) (R.ex (R.run ys.length) ys.length) (R.clk (R.run ys.length) ys.length q k) (R.vl ys.length)))<(R.vns (R.run ys.length) (R.ex (R.run ys.length) ys.length) (R.clk (R.run ys.length) ys.length q k) (R.vl ys.length)).length:=by rw[hx1,eQ];exact(vH hjm).1
   have hge:(R.vns (R.run ys.length) (R.ex (R.run ys.length) ys.length) (R.clk (R.run ys.length) ys.length q k) (R.vl ys.length))[(cN (bZ (aJ (R.wl (R.run ys.length) q (R.I ys.length)) (k)).1 ((q:Nat):Int)) (R.vns (R.run ys.length) (R.ex (R.run ys.length) ys.length) (R.clk (R.run ys.length) ys.length q k) (R.vl ys.length)))]? =some (R.vn (R.run ys.length) (R.ex (R.run ys.length) ys.length) (R.clk (R.run ys.length) ys.length q k) (j,q)):=by rw[hx1];exact wU hjm
   have hset:(R.vns (R.run ys.length) (R.ex (R.run ys.length) ys.length) (R.clk (R.run ys.length) ys.length q k) (R.vl ys.length)).set (cN (bZ (aJ (R.wl (R.run ys.length) q (R.I ys.length)) (k)).1 ((q:Nat):Int)) (R.vns (R.run ys.length) (R.ex (R.run ys.length) ys.length) (R.clk (R.run ys.length) ys.length q k) (R.vl ys.length))) (⟨(R.vn (R.run ys.length) (R.ex (R.run ys.length) ys.length) (R.clk (R.run ys.length) ys.length q k) (j,q)).y,(R.vn (R.run ys.length) (R.ex (R.run ys.length) ys.length) (R.clk (R.run ys.length) ys.length q k) (j,q)).e,(R.vn (R.run ys.length) (R.ex (R.run ys.length) ys.length) (R.clk (R.run ys.length) ys.length q k) (j,q)).l,(R.vn (R.run ys.length) (R.ex (R.run ys.length) ys.length) (R.clk (R.run ys.length) ys.length q k) (j,q)).u,(R.vn (R.run ys.length) (R.ex (R.run ys.length) ys.length) (R.clk (R.run ys.length) ys.length q k) (j,q)).x,(aJ (R.wl (R.run ys.length) q (R.I ys.length)) (k)).2⟩:Vn)=(R.vns (R.run ys.length) (R.ex (R.run ys.length) ys.length) (R.clk (R.run ys.length) ys.length q (k+1)) (R.vl ys.length)):=by
    rw[hx1,hx2]
    have h9:=Cc (R:=R) (U:=(R.run ys.length)) (U':=(R.run ys.length)) (x:=(R.ex (R.run ys.length) ys.length)) (x':=(R.ex (R.run ys.length) ys.length)) (c:=(R.clk (R.run ys.length) ys.length q k)) (c':=(R.clk (R.run ys.length) ys.length q (k+1))) (nA ys.length) hjm fun p _ hp=>by
     unfold Rg.vn;rw[Yt (by omega) hx fun h=>hp (Prod.ext h.1 h.2)]
    rw[←h9];unfold Rg.vn;rw[FJ (by omega) hx hjf]
   refine rd [0,4] (fun i=>[9].contains i) mixed ?_
   refine dv 0 ?_;refine dv 1 ?_;refine aR 2 ?_;refine dv 3 ?_;refine dv 5 ?_;refine aR 6 ?_
   have hvi:=Aj (vs:=(R.vns (R.run ys.length) (R.ex (R.run ys.length) ys.length) (R.clk (R.run ys.length) ys.length q k) (R.vl ys.length))) (y:=(aJ (R.wl (R.run ys.length) q (R.I ys.length)) (k)).1) (e:=((q:Nat):Int)) (ra:=(dA true (R.rls (R.run ys.length) ys.length))) (rb:=(cI true false (R.run ys.length))) (rc:=.v (.bool false)) (m:=R.E) (l3:=(R.own (R.run ys.length) (R.I ys.length) ys.length).map dQ) hfi (by rw[eQ];omega)
   rw[show(R.vns (R.run ys.length) (R.ex (R.run ys.length) ys.length) (R.clk (R.run ys.length) ys.length q k) (R.vl ys.length)).length=(R.vl ys.length).length from eQ]at hvi
   refine JK 4 [1,2,3] rfl hvi Xv ⟨oe rfl rfl,aI rfl,aI rfl,rfl⟩ ⟨rfl,rfl,rfl,rfl⟩ (ok:=[some ⟨95,0,[.t (dA true (R.rls (R.run ys.length) ys.length)),.sl 2 0 (R.vl ys.length).length,.t (cI true false (R.run ys.length)),.sl 3 0 R.E]⟩,some ⟨64,18,((R.vns (R.run ys.length) (R.ex (R.run ys.length) ys.length) (R.clk (R.run ys.length) ys.length q k) (R.vl ys.length)).flatMap (eE false)).map .t⟩,some ⟨96,1,((R.own (R.run ys.length) (R.I ys.length) ys.length).map dQ).map .t⟩]) ⟨oe rfl rfl,aI rfl,aI rfl,rfl⟩ ⟨rfl,rfl,trivial⟩ ?_
   refine eR 7 (by kernel_rfl) rfl rfl aA rfl (by trivial) ?_ (fun h=>by first | rfl | cases h)
   refine df 8 ?_
   refine lV 9 (dK (xs:=(R.vns (R.run ys.length) (R.ex (R.run ys.length) ys.length) (R.clk (R.run ys.length) ys.length q k) (R.vl ys.length))) (k:=(cN (bZ (aJ (R.wl (R.run ys.length) q (R.I ys.length)) (k)).1 ((q:Nat):Int)) (R.vns (R.run ys.length) (R.ex (R.run ys.length) ys.length) (R.clk (R.run ys.length) ys.length q k) (R.vl ys.length)))) (x:=(R.vn (R.run ys.length) (R.ex (R.run ys.length) ys.length) (R.clk (R.run ys.length) ys.length q k) (j,q))) (f:=(eE false)) (z:=18) (o:=14) (x':=(⟨(R.vn (R.run ys.length) (R.ex (R.run ys.length) ys.length) (R.clk (R.run ys.length) ys.length q k) (j,q)).y,(R.vn (R.run ys.length) (R.ex (R.run ys.length) ys.length) (R.clk (R.run ys.length) ys.length q k) (j,q)).e,(R.vn (R.run ys.length) (R.ex (R.run ys.length) ys.length) (R.clk (R.run ys.length) ys.length q k) (j,q)).l,(R.vn (R.run ys.length) (R.ex (R.run ys.length) ys.length) (R.clk (R.run ys.length) ys.length q k) (j,q)).u,(R.vn (R.run ys.length) (R.ex (R.run ys.length) ys.length) (R.clk (R.run ys.length) ys.length q k) (j,q)).x,(aJ (R.wl (R.run ys.length) q (R.I ys.length)) (k)).2⟩:Vn)) (us:=(Fr4.of (aJ (R.wl (R.run ys.length) q (R.I ys.length)) (k)).2).tr false) (eH false) (hge) (Nat.le_of_ble_eq_true rfl) rfl) (eL (xs:=(R.vns (R.run ys.length) (R.ex (R.run ys.length) ys.length) (R.clk (R.run ys.length) ys.length q k) (R.vl ys.length))) (k:=(cN (bZ (aJ (R.wl (R.run ys.length) q (R.I ys.length)) (k)).1 ((q:Nat):Int)) (R.vns (R.run ys.length) (R.ex (R.run ys.length) ys.length) (R.clk (R.run ys.length) ys.length q k) (R.vl ys.length)))) (f:=(eE false)) (z:=18) (o:=14) (us:=(Fr4.of (aJ (R.wl (R.run ys.length) q (R.I ys.length)) (k)).2).tr false) (eH false) (by omega) (Nat.le_of_ble_eq_true rfl)) ?_
   refine aS ?_;refine rl ?_;refine o1 ?_;refine WL.cast (t:=95) (u':=.int .i64 ((k+1:Nat):Int)) rfl (aC (by omega)) ?_
   refine o1 ?_;refine nl ?_
   exact⟨k+1,by omega,by omega,aN h0 [0,1,2,3] _ _ (by decide) ⟨rfl,rfl,rfl,rfl,rfl,rfl,rfl,rfl,rfl,trivial⟩ ⟨oe rfl rfl,oe rfl rfl,aI (congrArg (fun l:List Vn=>some (⟨64,18,(l.flatMap (eE false)).map .t⟩:Ob)) hset),aI rfl,rfl⟩⟩
  refine ex ?_;refine rl ?_;refine o1 ?_;refine WL.cast (t:=96) (u':=.int .i64 ((q+1:Nat):Int)) rfl (aC (by omega)) ?_
  refine o1 ?_;refine nl ?_
  have hxk:(R.vns (R.run ys.length) (R.ex (R.run ys.length) ys.length) (R.clk (R.run ys.length) ys.length q k) (R.vl ys.length))=(R.vns (R.run ys.length) (R.ex (R.run ys.length) ys.length) (R.clk (R.run ys.length) ys.length (q+1) 0) (R.vl ys.length)):=Ig fun p hp=>⟨rfl,Yq hIv (by omega) hq9 (fM.1 hp).1⟩
  exact⟨q+1,by omega,by omega,aN h0 [0,1,2,3] _ _ (by decide) ⟨rfl,rfl,rfl,rfl,rfl,trivial⟩ ⟨oe rfl rfl,oe rfl rfl,aI (congrArg (fun l:List Vn=>some (⟨64,18,(l.flatMap (eE false)).map .t⟩:Ob)) hxk),aI rfl,rfl⟩⟩
 refine ex ?_;refine sq ?_;have hqq:q=R.E:=by omega
 subst hqq
 have hfin:(R.vns (R.run ys.length) (R.ex (R.run ys.length) ys.length) (R.clk (R.run ys.length) ys.length R.E 0) (R.vl ys.length))=(R.vnE ys.length):=Ig fun p hp=>⟨rfl,Ys (fM.1 hp).2.1⟩
 refine WP.sub (nX (j:=1) (key:=4) (p:=0) (e:=62) (z:=5) (n:=(R.rls (R.run ys.length) ys.length).length) (trs:=(R.rls (R.run ys.length) ys.length).flatMap mP) rfl rfl rfl rfl rfl) ?_
 refine WP.sub (nX (j:=1) (key:=5) (p:=2) (e:=58) (z:=7) (n:=(R.run ys.length).length) (trs:=(R.run ys.length).flatMap (hJ false)) rfl rfl rfl rfl rfl) ?_;refine rl ?_
 (iterate 3 refine o1 ?_);refine ld ?_;refine st ?_;refine o1 ?_;refine nl ?_;refine rt ?_
 have h9:(.s true 64 18 (R.vl ys.length).length ((R.vns (R.run ys.length) (R.ex (R.run ys.length) ys.length) (R.clk (R.run ys.length) ys.length R.E 0) (R.vl ys.length)).flatMap (eE false)):Tr)=cU true false (R.vnE ys.length):=by
  rw[hfin];unfold cU Rg.vnE;rw[eQ]
 exact en (.inl rfl) rfl (uP (.cons (.agg (.cons (.sl (trs:=(R.rls (R.run ys.length) ys.length).flatMap mP) rfl rfl (cD _ _ (cL lM _)) (cL lM _)) (.cons (.sl (trs:=(R.vns (R.run ys.length) (R.ex (R.run ys.length) ys.length) (R.clk (R.run ys.length) ys.length R.E 0) (R.vl ys.length)).flatMap (eE false)) rfl rfl (cD _ _ (by rw[cL (eH false),eQ])) (by rw[cL (eH false),eQ])) (.cons (.sl (trs:=(R.run ys.length).flatMap (hJ false)) rfl rfl (cD _ _ (cL (fH false) _)) (cL (fH false) _)) .nil)))) (.cons (cR _) .nil))) (by decide) (fun h=>by cases h) (congrArg (fun z:Tr=>FV.tup [.agg [.t (dA true (R.rls (R.run ys.length) ys.length)),.t z,.t (cI true false (R.run ys.length))],.one (tv (.int .i64 0))]) h9)
def eT (a:Fr4):Bool:=decide (a.x.length≤3)&&decide (a.y.length≤3)
def kQ (y:Yr):Bool:=decide (y.m.length≤6)&&(decide (y.b.length≤6)&&(eT y.l&&y.b.all eT))
def lE (ys:List Yr):Bool:= !(decide (10<ys.length)&&decide (ys.length≤40)|| decide (60<ys.length))&&ys.all kQ
theorem Ao {a:Fr4}(h:eT a=true):a.len 3:=by
 unfold eT at h
 simp only[Bool.and_eq_true,decide_eq_true_eq]at h
 exact h
theorem Ih {α:Type}{l:List α}{d:α}{p:α→Bool}(h:∀j,j<l.length→p (l.getD j d)=true):l.all p=true:=by
 rw[List.all_eq_true]
 intro x hx
 obtain⟨j,hj,rfl⟩:=List.getElem_of_mem hx
 have:=h j hj
 rwa[List.getD_eq_getElem?_getD,List.getElem?_eq_getElem hj]at this
theorem Mp {y:Yr}{k:Nat}(hk:k<y.b.length) (h:eT (dM y.b k)=false):kQ y=false:=by
 have h1:y.b.all eT=false:=by
  rw[List.all_eq_false]
  exact⟨dM y.b k,pS hk,by simp[h]⟩
 unfold kQ
 rw[h1]
 simp
theorem Ii {y:Yr}{k:Nat}(hm:y.m.length≤6) (hb:y.b.length≤6) (hl:eT y.l=true) (hk:y.b.length≤k) (h:∀j,j<k→eT (dM y.b j)=true):kQ y=true:=by
 unfold kQ
 rw[decide_eq_true hm,decide_eq_true hb,hl,Ih (d:=Xf) fun j hj=>h j (by omega)]
 rfl
theorem lO {ys:List Yr}{k:Nat}(hk:k<ys.length) (h:kQ (aT ys k)=false):lE ys=false:=by
 have h1:ys.all kQ=false:=by
  rw[List.all_eq_false]
  exact⟨aT ys k,jA hk,by simp[h]⟩
 unfold lE
 rw[h1]
 simp
theorem Yw {ys:List Yr}{k:Nat}(hk:ys.length≤k) (h:∀j,j<k→kQ (aT ys j)=true):lE ys= !(decide (10<ys.length)&&decide (ys.length≤40)|| decide (60<ys.length)):=by
 unfold lE
 rw[Ih (d:=BO) fun j hj=>h j (by omega),Bool.and_true]
theorem Ij {ys:List Yr}{k:Nat}(hk:ys.length≤k) (h:∀j,j<k→kQ (aT ys j)=true) (hl:ys.length≤10∨40<ys.length∧ys.length≤60):lE ys=true:=by
 rw[Yw hk h]
 simp only[Bool.not_eq_true',Bool.or_eq_false_iff,Bool.and_eq_false_iff,decide_eq_false_iff_not]
 omega
theorem yV {ys:List Yr}(h:(10<ys.length∧ys.length≤40)∨60<ys.length):lE ys=false:=by
 unfold lE
 have:(decide (10<ys.length)&&decide (ys.length≤40)|| decide (60<ys.length))=true:=by
  simp only[Bool.or_eq_true,Bool.and_eq_true,decide_eq_true_eq]
  omega
 rw[this]
 rfl
theorem nE {y:Yr}(h:6<y.m.length∨6<y.b.length∨eT y.l=false):kQ y=false:=by
 unfold kQ
 rcases h with h | h | h
 ·rw[decide_eq_false (show¬y.m.length≤6 by omega)];rfl
 ·rw[decide_eq_false (show¬y.b.length≤6 by omega),Bool.false_and,Bool.and_false]
 rw[h,Bool.false_and,Bool.and_false,Bool.and_false]
theorem Ik {ys:List Yr}(h:lE ys=true):(ys.length≤10∨40<ys.length∧ys.length≤60)∧∀y∈ys,y.m.length≤6∧y.b.length≤6∧y.l.len 3∧∀a∈y.b,a.len 3:=by
 unfold lE at h
 simp only[Bool.and_eq_true,Bool.not_eq_true',Bool.or_eq_false_iff,Bool.and_eq_false_iff,decide_eq_false_iff_not,List.all_eq_true]at h
 refine⟨by omega,fun y hy=>?_⟩
 have h2:=h.2 y hy
 unfold kQ at h2
 simp only[Bool.and_eq_true,decide_eq_true_eq,List.all_eq_true]at h2
 exact⟨h2.1,h2.2.1,Ao h2.2.2.1,fun a ha=>Ao (h2.2.2.2 a ha)⟩
structure Agr (R R':Rg) (k:Nat):Prop where
 f:R.f=R'.f
 e:R.E=R'.E
 m:∀y,y<k→R.mem y=R'.mem y
 b:∀y,y<k→R.base y=R'.base y
 l:∀y,y<k→R.lim y=R'.lim y
section
variable {R R':Rg}{U W:List Ur}{k n t y e i:Nat}{p:Ur→Bool}
theorem Eg:∀(a b:List Rat),nC (a++b)=nC a+nC b
 | [],b=>by rw[List.nil_append];show _=0+_;grind
 | x::a,b=>by rw[List.cons_append,Eh,Eg a b,Eh,Rat.add_assoc]
theorem Cn:jB (U++W) p=jB U p+jB W p:=by
 unfold jB
 rw[List.filter_append,List.map_append,Eg]
theorem Il:∀(L:List (Nat×Nat)) (U:List Ur),∃W,L.foldl (fun U p=>R.use U p.1 p.2 t) U=U++W∧∀u∈W,u.y=(t:Int)∧0<u.n
 | [],U=>⟨[],(List.append_nil U).symm,fun _ h=>(by cases h)⟩
 | p::L,U=>by
  rw[List.foldl_cons]
  obtain⟨W,h1,h2⟩:=Il L (R.use U p.1 p.2 t)
  rw[h1]
  unfold Rg.use Rg.us
  split
  ·rename_i h
   refine⟨⟨p.1,p.2,t,_⟩::W,by rw[List.append_assoc];rfl,fun u hu=>?_⟩
   rcases List.mem_cons.1 hu with rfl | hu
   ·exact⟨rfl,h⟩
   exact h2 u hu
  exact⟨W,rfl,h2⟩
theorem xF (hk:k≤n):∃W,R.run n=R.run k++W∧∀u∈W,(k:Int)≤u.y:=by
 induction n with
 | zero=>exact⟨[],by rw[show k=0 by omega,List.append_nil],fun _ h=>(by cases h)⟩
 | succ n ih=>
  by_cases h:k=n+1
  ·exact⟨[],by rw[h,List.append_nil],fun _ h=>(by cases h)⟩
  obtain⟨W,h1,h2⟩:=ih (by omega)
  obtain⟨V,h3,h4⟩:=Il (R:=R) (t:=n) ((R.vl n).filter (R.may n)) (R.run n)
  refine⟨W++V,?_,fun u hu=>?_⟩
  ·show R.step (R.run n) n=_
   unfold Rg.step
   rw[h3,h1,List.append_assoc]
  rcases List.mem_append.1 hu with hu | hu
  ·exact h2 u hu
  have:=(h4 u hu).1
  omega
theorem FM (hi:i<k) (hk:k≤n):dR (R.run n) i=dR (R.run k) i:=by
 obtain⟨W,h1,h2⟩:=xF (R:=R) hk
 have h3:jB W (fun u=>decide (u.y=(i:Int)))=0:=nB fun u hu=>by
  have:=h2 u hu
  exact decide_eq_false (by omega)
 unfold dR
 rw[h1,Cn,h3]
 grind
end
section
variable {ys:List Yr}{f k i:Nat}
end
theorem Yx {B:Nat}:∀{l:List Rat},(∀q∈l,Sz B q)→Sz (2+l.length*(B+1)) (nC l):=fun{l} h=>by
 have key:∀(l:List Rat) (p:Rat) (m:Nat),Sz m p→(∀q∈l,Sz B q)→Sz (m+l.length*(B+1)) (l.foldl (· + ·) p):=by
  intro l
  induction l with
  | nil=>intro p m hp _;simpa using hp
  | cons q l ih=>
   intro p m hp hl
   have h1:=ih (p+q) (m+B+1) (Tm hp (hl q (List.mem_cons_self ..))) fun z hz=>hl z (List.mem_cons_of_mem _ hz)
   rw[List.foldl_cons,List.length_cons,Nat.add_mul,Nat.one_mul]
   exact h1.mono (by omega)
 exact key l 0 2 ((vR (z:=0) (by omega) (by omega)).mono (by omega)) h
section
variable {R:Rg}{U W:List Ur}{N n k t y e:Nat}
theorem yW {Q:List Ur→Prop}(h:∀U y e,Q U→Q (R.use U y e t)):∀(L:List (Nat×Nat)) (U:List Ur),Q U→Q (L.foldl (fun U p=>R.use U p.1 p.2 t) U)
 | [],_,h0=>h0
 | p::L,U,h0=>yW h L _ (h U p.1 p.2 h0)
theorem Mq {Q:List Ur→Prop}(h0:Q []) (h:∀U y e t,Q U→Q (R.use U y e t)):∀n,Q (R.run n)
 | 0=>h0
 | n+1=>yW (fun U y e=>h U y e n) _ _ (Mq h0 h n)
theorem Mr:(R.vnE n).length=(R.vl n).length:=eQ
theorem LF {i:Nat}(hi:i<(R.vnE n).length):∃y e,(y,e)∈R.vl n∧cO (R.vnE n) i=R.vn (R.run n) (R.ex (R.run n) n) (R.cl (R.run n) n) (y,e):=by
 rw[Mr]at hi
 refine⟨(R.vl n)[i].1,(R.vl n)[i].2,List.getElem_mem hi,?_⟩
 unfold Rg.vnE Rg.vns cO
 rw[List.getD_eq_getElem?_getD,List.getElem?_map,List.getElem?_eq_getElem hi]
 rfl
theorem Im {M:Nat}(h:2≤M):Sz M (0:Rat):=(vR (z:=0) (by omega) (by omega)).mono h
theorem LG (h:(y,e)∈R.vl n):y<n∧e<R.E∧R.mem y e=false∧R.los y e=-(R.base y e)∧0<R.los y e:=by
 obtain⟨h1,h2,h3⟩:=fM.1 h
 have h4:=sA h3
 unfold Rg.isV at h3
 simp only[Bool.and_eq_true,Bool.not_eq_true']at h3
 exact⟨h1,h2,h3.1,h4⟩
theorem Ms (hO:R.Ok N):∀{n:Nat},n≤N→∀u∈R.run n,Sz 300 u.n
 | 0,_,u,h=>by cases h
 | n+1,hn,u,h=>by
  have key:∀(L:List (Nat×Nat)) (V:List Ur),R.Iv N V→(∀u∈V,Sz 300 u.n)→(∀p∈L,p.1<N∧p.2<R.E)→∀u∈L.foldl (fun U p=>R.use U p.1 p.2 n) V,Sz 300 u.n:=by
   intro L
   induction L with
   | nil=>intro V _ h _;exact h
   | cons p L ih=>
    intro V hI hV hL
    have h1:=hL p (List.mem_cons_self ..)
    refine ih _ (hI.use h1.1 h1.2 (by omega)) (fun u hu=>?_) fun q hq=>hL q (List.mem_cons_of_mem _ hq)
    dsimp only at hu
    unfold Rg.use at hu
    by_cases h0:0<aO (R.left V p.1 p.2) [R.room V p.2 n]
    ·rw[jV h0]at hu
     rcases List.mem_append.1 hu with hu | hu
     ·exact hV u hu
     rw[List.mem_singleton]at hu
     subst hu
     refine hO.sz (Rat.le_of_lt h0) ?_ ((hI.v _ _ h1.1 h1.2).2.min (In hI h1.2 (by omega)))
     exact Rat.le_trans (pZ _ _) (Rat.le_trans (hI.v _ _ h1.1 h1.2).1.2 (hO.los_le h1.1 h1.2))
    rw[mB h0]at hu
    exact hV u hu
  exact key _ _ (hO.run (by omega)) (Ms hO (n:=n) (by omega)) (fun p hp=>by
   have:=fM.1 (List.mem_filter.1 hp).1
   exact⟨by omega,this.2.1⟩) u h
theorem LH {p:Ur→Bool}{B:Nat}(h:∀u∈U,Sz B u.n):Sz (2+U.length*(B+1)) (jB U p):=by
 unfold jB
 refine(Yx (B:=B) fun q hq=>?_).mono ?_
 ·obtain⟨u,hu,rfl⟩:=List.mem_map.1 hq
  exact h u (List.mem_filter.1 hu).1
 rw[List.length_map]
 have:=Nat.mul_le_mul (List.length_filter_le p U) (Nat.le_refl (B+1))
 omega
theorem Mt {p:Ur→Bool}{B M:Nat}(h:∀u∈U,Sz B u.n) (hM:2+U.length*(B+1)≤M):Sz M (jB (U.take k) p):=by
 refine(LH (B:=B) fun u hu=>h u (List.mem_of_mem_take hu)).mono ?_
 have:=Nat.mul_le_mul (show(U.take k).length≤U.length by rw[List.length_take];omega) (Nat.le_refl (B+1))
 omega
theorem base_le {b:Rat}:b≤dH 0 [b]∧0≤dH 0 [b]:=by
 show b≤(if(0:Rat)<b then b else 0)∧0≤(if(0:Rat)<b then b else 0)
 split <;> exact⟨by grind,by grind⟩
theorem LI:dS (R.run n) t e≤dH 0 [R.base t e]:=by
 refine Mq (Q:=fun U=>dS U t e≤dH 0 [R.base t e]) base_le.2 (fun U y' e' t' h=>?_) n
 unfold Rg.use
 by_cases h0:0<aO (R.left U y' e') [R.room U e' t']
 ·rw[jV h0,pB]
  split
  ·rename_i hq
   have e1:t'=t:=by omega
   have e2:e'=e:=by omega
   subst e1
   subst e2
   have h1:=nF (R.left U y' e') (R.room U e' t')
   have h2:=tL (R:=R) (U:=U) (e:=e') (t:=t')
   have h3:=(base_le (b:=R.base t' e')).1
   grind
  exact h
 rw[mB h0]
 exact h
theorem LJ {i:Nat}(hi:i<n):qU (R.rls U n) i=R.rl U i:=by
 unfold Rg.rls qU
 rw[List.getD_eq_getElem?_getD,List.getElem?_map,List.getElem?_range hi]
 rfl
end
section
variable {R:Rg}{U V W:List Ur}{N n k t y e:Nat}{p:Nat×Nat}{m:Rat}
theorem xG (a b:Rat):aO a [b]=a∨aO a [b]=b:=by
 rw[Ap]
 split
 ·exact .inr rfl
 exact .inl rfl
theorem Tn {p q:Ur→Bool}(h:∀u∈U,p u=q u):jB U p=jB U q:=by
 unfold jB
 rw[List.filter_congr h]
theorem FN (hi:t<k) (hk:k≤n):dS (R.run n) t e=dS (R.run k) t e:=by
 obtain⟨W,h1,h2⟩:=xF (R:=R) hk
 have h3:jB W (fun u=>decide (u.y=(t:Int))&&decide (u.e=(e:Int)))=0:=nB fun u hu=>by
  have:=h2 u hu
  rw[decide_eq_false (show¬u.y=(t:Int) by omega)]
  rfl
 unfold dS
 rw[h1,Cn,h3]
 grind
theorem Yy (h:dR U t=R.lim t):R.use U y e t=U:=mB (by
 have h1:=nF (R.left U y e) (R.room U e t)
 have h2:=Io (R:=R) (U:=U) (e:=e) (t:=t)
 rw[h]at h2
 grind)
theorem Ei (h:dR U t=R.lim t):∀L:List (Nat×Nat),L.foldl (fun U p=>R.use U p.1 p.2 t) U=U
 | []=>rfl
 | p::L=>by
  rw[List.foldl_cons,Yy h]
  exact Ei h L
theorem FO (h:dS U t e=dH 0 [R.base t e]):R.use U y e t=U:=mB (by
 have h1:=nF (R.left U y e) (R.room U e t)
 have h2:=tL (R:=R) (U:=U) (e:=e) (t:=t)
 have h3:=(base_le (b:=R.base t e)).1
 rw[h]at h2
 grind)
theorem Yz (h:dS U t e=dH 0 [R.base t e]):∀L:List (Nat×Nat),dS (L.foldl (fun U p=>R.use U p.1 p.2 t) U) t e=dH 0 [R.base t e]∧∀u∈L.foldl (fun U p=>R.use U p.1 p.2 t) U,u∈U∨u.e≠(e:Int):=by
 intro L
 induction L generalizing U with
 | nil=>exact⟨h,fun u hu=>.inl hu⟩
 | cons p L ih=>
  rw[List.foldl_cons]
  by_cases hq:p.2=e
  ·rw[hq,FO h]
   exact ih h
  have h1:dS (R.use U p.1 p.2 t) t e=dS U t e:=Ee (fun h=>hq h.symm)
  obtain⟨h2,h3⟩:=ih (h1.trans h)
  refine⟨h2,fun u hu=>?_⟩
  rcases h3 u hu with h4 | h4
  ·rcases Cm h4 with h5 | ⟨_,h5,_⟩
   ·exact .inl h5
   exact .inr (by rw[h5];omega)
  exact .inr h4
theorem Za (hI:R.Iv N U) (hb:dS U t e≤dH 0 [R.base t e]) (hy:y<N) (he:e<R.E) (ht:t<N) (h:R.left (R.use U y e t) y e≠0):dS (R.use U y e t) t e=dH 0 [R.base t e]∨dR (R.use U y e t) t=R.lim t:=by
 have h1:=(hI.v y e hy he).1
 have h2:=(hI.b t e ht he).1.1
 have h3:=(hI.y t ht).1
 have hq:dH 0 [R.base t e]=if 0<R.base t e then R.base t e else 0:=rfl
 unfold Rg.use at h⊢
 by_cases h0:0<aO (R.left U y e) [R.room U e t]
 ·rw[Cp (Rat.le_of_lt h0)]at h
  rw[Td h0,Tc h0]
  rcases xG (R.left U y e) (R.room U e t)with h5 | h5
  ·rw[h5]at h
   exact absurd (by grind) h
  rw[h5]at h0⊢
  rcases xG (R.base t e-dS U t e) (R.lim t-dR U t)with h6 | h6
  ·have h7:R.room U e t=R.base t e-dS U t e:=h6
   rw[h7]at h0⊢
   rw[hq,if_pos (by grind)]
   left
   grind
  have h7:R.room U e t=R.lim t-dR U t:=h6
  rw[h7]
  right
  grind
 rw[mB h0]at h⊢
 have h4:R.room U e t≤0:=by
  rcases xG (R.left U y e) (R.room U e t)with h5 | h5
  ·rw[h5]at h0
   grind
  rw[h5]at h0
  grind
 rcases xG (R.base t e-dS U t e) (R.lim t-dR U t)with h6 | h6
 ·have h7:R.room U e t=R.base t e-dS U t e:=h6
  left
  rw[hq]at hb⊢
  split at hb
  ·rename_i h8
   rw[if_pos h8]
   grind
  rename_i h8
  rw[if_neg h8]
  grind
 have h7:R.room U e t=R.lim t-dR U t:=h6
 right
 grind
theorem To (hO:R.Ok N) (hv:(y,e)∈R.vl N) (hyt:y<t) (ht:t<N) (hf:t≤y+R.f) (hm:R.mem t e=true) (hw:R.left (R.run (t+1)) y e≠0):(dS (R.run N) t e=dH 0 [R.base t e]∨dR (R.run N) t=R.lim t)∧∀u∈R.run N,u.y=(t:Int)→(y:Int)<u.v→(u.e=(e:Int)∨dS (R.run N) t e≠dH 0 [R.base t e])→False:=by
 obtain⟨hy,he,hV⟩:=fM.1 hv
 have hp:(y,e)∈(R.vl t).filter (R.may t):=List.mem_filter.2 ⟨fM.2 ⟨hyt,he,hV⟩,by unfold Rg.may;rw[decide_eq_true (show t≤(y,e).1+R.f from hf)];exact hm⟩
 have hor:((R.vl t).filter (R.may t)).Pairwise plt:=List.Pairwise.filter _ (Aq t)
 have hnd:((R.vl t).filter (R.may t)).Nodup:=List.Pairwise.filter _ (nA t)
 have hall:∀q∈(R.vl t).filter (R.may t),q.1<N∧q.2<R.E:=fun q hq=>by
  have:=fM.1 (List.mem_filter.1 hq).1
  exact⟨by omega,this.2.1⟩
 obtain⟨L1,L2,hL⟩:=List.append_of_mem hp
 rw[hL]at hor hnd hall
 have hS:R.run (t+1)=L2.foldl (fun U p=>R.use U p.1 p.2 t) (R.use (L1.foldl (fun U p=>R.use U p.1 p.2 t) (R.run t)) y e t):=by
  show R.step (R.run t) t=_
  unfold Rg.step
  rw[hL,List.foldl_append,List.foldl_cons]
 have hI0:=hO.run (k:=t) (by omega)
 have hI1:R.Iv N (L1.foldl (fun U p=>R.use U p.1 p.2 t) (R.run t)):=hI0.fold ht L1 fun q hq=>hall q (List.mem_append_left _ hq)
 have hb1:dS (L1.foldl (fun U p=>R.use U p.1 p.2 t) (R.run t)) t e≤dH 0 [R.base t e]:=by
  refine yW (Q:=fun U=>dS U t e≤dH 0 [R.base t e]) (fun U y' e' h=>?_) L1 _ LI
  by_cases h0:0<aO (R.left U y' e') [R.room U e' t]
  ·unfold Rg.use
   rw[jV h0,pB]
   split
   ·rename_i hq
    have e2:e'=e:=by omega
    subst e2
    have h1:=nF (R.left U y' e') (R.room U e' t)
    have h2:=tL (R:=R) (U:=U) (e:=e') (t:=t)
    have h3:=(base_le (b:=R.base t e')).1
    grind
   exact h
  unfold Rg.use
  rw[mB h0]
  exact h
 have hnot:(y,e)∉L2:=by
  have h1:=(List.nodup_append.1 hnd).2.1
  exact(List.nodup_cons.1 h1).1
 have hw2:R.left (R.use (L1.foldl (fun U p=>R.use U p.1 p.2 t) (R.run t)) y e t) y e≠0:=by
  rw[hS,oW (p:=(y,e)) L2 _ hnot]at hw
  exact hw
 have hfull:=Za hI1 hb1 hy he ht hw2
 generalize hU2:R.use (L1.foldl (fun U p=>R.use U p.1 p.2 t) (R.run t)) y e t=U2 at hS hfull
 rw[FN (show t<t+1 by omega) (show t+1≤N by omega),FM (show t<t+1 by omega) (show t+1≤N by omega)]
 have hU:∀u∈U2,u.y=(t:Int)→¬(y:Int)<u.v:=by
  intro u hu hut hlt
  rw[←hU2]at hu
  rcases Cm hu with hu | ⟨h1,_,_⟩
  ·rcases yS L1 _ hu with hu | ⟨q,hq,h1,_,_⟩
   ·obtain⟨_,_,t',_,_,h3,_,h5,_⟩:=pE hu
    omega
   have h2:=(List.pairwise_append.1 hor).2.2 q hq (y,e) (List.mem_cons_self ..)
   unfold plt at h2
   dsimp only at h2
   omega
  omega
 have hmem:∀u∈R.run N,u.y=(t:Int)→u∈R.run (t+1):=by
  intro u hu hut
  obtain⟨W,h1,h2⟩:=xF (R:=R) (show t+1≤N by omega)
  rw[h1]at hu
  rcases List.mem_append.1 hu with hu | hu
  ·exact hu
  have:=h2 u hu
  omega
 rcases hfull with h | h
 ·obtain⟨h1,h2⟩:=Yz h L2
  rw[←hS]at h1 h2
  refine⟨.inl h1,fun u hu hut hlt hor2=>?_⟩
  rcases hor2 with h3 | h3
  ·rcases h2 u (hmem u hu hut)with h4 | h4
   ·exact hU u h4 hut hlt
   exact h4 h3
  exact h3 h1
 have h1:=Ei h L2
 rw[←hS]at h1
 refine⟨.inr (by rw[h1];exact h),fun u hu hut hlt _=>?_⟩
 have h2:=hmem u hu hut
 rw[h1]at h2
 exact hU u h2 hut hlt
def fY (U:List Ur) (l:Rat) (y e t:Int):Rat:=l-jB U fun u=>decide (u.v=y)&&(decide (u.e=e)&&decide (u.y≤t))
theorem Zb (ht:t<N):fY (R.run N) (R.los y e) y e t=R.left (R.run (t+1)) y e:=by
 obtain⟨W,h1,h2⟩:=xF (R:=R) (show t+1≤N by omega)
 have h3:jB W (fun u=>decide (u.v=(y:Int))&&(decide (u.e=(e:Int))&&decide (u.y≤(t:Int))))=0:=nB fun u hu=>by
  have:=h2 u hu
  rw[decide_eq_false (show¬u.y≤(t:Int) by omega),Bool.and_false,Bool.and_false]
 have h4:jB (R.run (t+1)) (fun u=>decide (u.v=(y:Int))&&(decide (u.e=(e:Int))&&decide (u.y≤(t:Int))))=fS (R.run (t+1)) y e:=Tn fun u hu=>by
  obtain⟨_,_,t',_,_,h5,_,h6,_⟩:=pE hu
  rw[decide_eq_true (show u.y≤(t:Int) by omega),Bool.and_true]
 unfold fY Rg.left
 rw[h1,Cn,h3,h4]
 grind
end
theorem LK {a b:Fr4}{p q:Rat}(ha:Qn a p) (hb:Qn b q):aD true Tryz.prog 53 [] [qF a,qF b] (aP (.one (tv (.bool (decide (p<q)))))):=by
 refine cC Tryz.func53 rfl Tryz.ntmps53 rfl aA rfl fun N w c0 h0=>?_
 refine sq ?_;refine rl ?_;refine bx 0 ?_;refine bx 1 ?_;refine o1 ?_;refine nl ?_;refine sq ?_;refine rl ?_;refine ld ?_;refine o1 ?_;refine ld ?_
 refine ca (tH hb ha) oJ ⟨aG rfl,aG rfl,rfl⟩ (.one (tv (.int .i64 (q-p).num.sign))) ?_;refine o1 ?_;refine o1 ?_;refine nl ?_;refine rt ?_
 exact en (.inl rfl) rfl (aZ (cR _)) (by decide) (fun _=>trivial) (congrArg (fun z=>FV.one (tv (.bool z))) (FP p q))
theorem LL {a:Fr4}:aD false Tryz.prog 52 [] [qF a] (aP (.one (.t (.f 53 [.a (a.tr false)] [])))):=by
 refine cC Tryz.func52 rfl Tryz.ntmps52 rfl aA rfl fun N w c0 h0=>?_
 refine sq ?_;refine rl ?_;refine bx 0 ?_;refine o1 ?_;refine nl ?_;refine sq ?_;refine rl ?_;refine ld ?_;refine o1 ?_;refine o1 ?_;refine nl ?_;refine rt ?_
 exact en (.inl rfl) rfl (aZ (.one (.id rfl))) (by decide) (fun h=>by cases h) rfl
theorem FQ {a:Fr4}{p:Rat}{xs:List Fr4}(ha:Qn a p) (hx:∀x∈xs,x.ok) (hl:xs.length≤1099511627776):aD false Tryz.prog 51 [] [qF a,.one (.t (sQ false xs)),.one (.t (.f 52 [] []))] (aP (qF (.of (dH p (xs.map Fr4.q))))):=by
 refine cC Tryz.func51 rfl Tryz.ntmps51 rfl aA rfl fun N w c0 h0=>?_
 have hz:∀x∈xs,Sz 68719476736 x.q:=fun x h=>(show Qn x x.q from⟨hx x h,rfl⟩).sz
 refine sq ?_;refine rl ?_;refine bx 0 ?_;refine al 1 ?_;refine nl ?_;refine sq ?_;refine rl ?_;refine ld ?_;refine ca (jO ha) lD ⟨aG rfl,rfl⟩ (qF (.of p)) ?_
 refine ca (fX (z:=0) (by omega) (by omega)) mX ⟨a1 rfl,rfl⟩ (qF (.of ((0:Int):Rat))) ?_
 refine ca (Ac ha.sz) Cf ⟨aG rfl,aG rfl,rfl⟩ (qF (.of p)) ?_;refine al 2 ?_;refine st ?_;refine nl ?_;refine sq ?_;refine sq ?_;refine rl ?_;(iterate 3 refine o1 ?_);refine nl ?_
 refine bl ?_
 refine lp (γ:=Nat) (fun k=>cA [(2,.one (.t (.f 52 [] []))),(6,.one (.pt 0 0)),(7,.one (.pt 1 0)),(14,.one (.t (sQ false xs))),(15,.one (tv (.int .i64 ((xs.length:Nat):Int)))),(16,.one (tv (.int .i64 ((k:Nat):Int))))]) (fun k=>[(⟨48,0,[tv (.bool false),tv (.slice none 0 0),tv (.bool false),tv (.slice none 0 0)]⟩:Ob),⟨48,0,((Fr4.of (dH p ((xs.take k).map Fr4.q))).tr false).map .t⟩].map some) (fun k=>k≤xs.length∧Sz 68719476736 (dH p ((xs.take k).map Fr4.q))) (fun k=>xs.length-k) 0 ⟨Nat.zero_le _,ha.sz⟩ (aN h0 [1,2] _ _ (by decide) ⟨rfl,rfl,rfl,rfl,rfl,rfl,trivial⟩ ⟨oe rfl rfl,aI rfl,rfl⟩) fun k hk=>?_
 refine sq ?_;refine rl ?_;refine o1 ?_;refine nl ?_;refine sq ?_;refine bM rfl (fun h1=>?_) (fun h1=>?_)
 ·refine sk ?_;refine sq ?_;refine bl ?_;refine sq ?_;refine rl ?_;refine o1 ?_;refine dU ((dM xs (k)).tr false) (lX xs (k:=k) (by omega)) ?_
  refine al 2 ?_;refine st ?_;refine nl ?_;refine sq ?_;refine rd [0,1,2] (fun i=>[].contains i) mixed ?_
  refine dv 0 ?_;refine aR 1 ?_;refine dv 2 ?_;refine aR 4 ?_
  refine qW 3 3 [.agg [tv (.bool (aE (dH p ((xs.take k).map Fr4.q)).num)),.t (sU false (dg 4294967296 (dH p ((xs.take k).map Fr4.q)).num.natAbs)),tv (.bool false),.t (sU false (dg 4294967296 (dH p ((xs.take k).map Fr4.q)).den))]] rfl rfl (LL (a:=.of (dH p ((xs.take k).map Fr4.q)))) SQ ⟨rfl,rfl⟩ ?_
  refine qW 5 3 [qF (dM xs (k))] rfl rfl (LK (a:=.of (dH p ((xs.take k).map Fr4.q))) (b:=(dM xs (k))) (Qn.of (p:=(dH p ((xs.take k).map Fr4.q))) hk.2) ⟨hx _ (jF (by omega)),rfl⟩) SR ⟨rfl,rfl⟩ ?_
  refine aS ?_;refine bM rfl (fun h2=>?_) (fun h2=>?_)
  ·refine rl ?_;refine ld ?_;refine ca (jO ⟨hx _ (jF (by omega)),rfl⟩) lD ⟨aG rfl,rfl⟩ (qF (.of (dM xs (k)).q)) ?_
   refine ca (fX (z:=0) (by omega) (by omega)) mX ⟨a1 rfl,rfl⟩ (qF (.of ((0:Int):Rat))) ?_
   refine ca (Ac (hz _ (jF (by omega)))) Cf ⟨aG rfl,aG rfl,rfl⟩ (qF (.of (dM xs (k)).q)) ?_
   refine st ?_;refine nl ?_;refine rl ?_;refine o1 ?_;refine WL.cast (t:=30) (u':=.int .i64 ((k+1:Nat):Int)) rfl (aC (by omega)) ?_
   refine o1 ?_;refine nl ?_;have hst:(dH p ((xs.take (k+1)).map Fr4.q))=(dM xs k).q:=by rw[Ad (by omega),Ej];exact if_pos h2
   exact⟨k+1,by omega,⟨by omega,by rw[hst];exact hz _ (jF (by omega))⟩,aN h0 [0,1] _ _ (by decide) ⟨rfl,rfl,rfl,rfl,rfl,rfl,trivial⟩ ⟨oe rfl rfl,aI (congrArg (fun q=>some (⟨48,0,((Fr4.of q).tr false).map .t⟩:Ob)) hst.symm),rfl⟩⟩
  refine sk ?_;refine rl ?_;refine o1 ?_;refine WL.cast (t:=30) (u':=.int .i64 ((k+1:Nat):Int)) rfl (aC (by omega)) ?_
  refine o1 ?_;refine nl ?_;have hst:(dH p ((xs.take (k+1)).map Fr4.q))=(dH p ((xs.take k).map Fr4.q)):=by rw[Ad (by omega),Ej];exact if_neg h2
  exact⟨k+1,by omega,⟨by omega,by rw[hst];exact hk.2⟩,aN h0 [0,1] _ _ (by decide) ⟨rfl,rfl,rfl,rfl,rfl,rfl,trivial⟩ ⟨oe rfl rfl,aI (congrArg (fun q=>some (⟨48,0,((Fr4.of q).tr false).map .t⟩:Ob)) hst.symm),rfl⟩⟩
 refine ex ?_;refine sq ?_;refine rl ?_;refine ld ?_;refine st ?_;refine nl ?_;refine rt ?_
 exact en (.inl rfl) rfl (aZ (.agg (.cons (.id rfl) (.cons (.id rfl) (.cons (.id rfl) (.cons (.id rfl) .nil)))))) (by decide) (fun h=>by cases h) (by rw[List.take_of_length_le (by omega)];rfl)
theorem QA {a:Fr4}{p:Rat}{xs:List Fr4}(ha:Qn a p) (hx:∀x∈xs,x.ok) (hl:xs.length≤1099511627776):aD false Tryz.prog 22 [] [qF a,.one (.t (sQ false xs))] (aP (qF (.of (dH p (xs.map Fr4.q))))):=by
 refine cC Tryz.func22 rfl Tryz.ntmps22 rfl aA rfl fun N w c0 h0=>?_
 refine sq ?_;refine rl ?_;refine bx 0 ?_;refine al 1 ?_;refine nl ?_;refine sq ?_;refine rl ?_;refine ld ?_;refine o1 ?_
 refine ca (FQ ha hx hl) JP ⟨aG rfl,a1 rfl,a1 rfl,rfl⟩ (qF (.of (dH p (xs.map Fr4.q)))) ?_;refine st ?_;refine nl ?_;refine rt ?_
 exact en (.inl rfl) rfl (aZ (.agg (.cons (.id rfl) (.cons (.id rfl) (.cons (.id rfl) (.cons (.id rfl) .nil)))))) (by decide) (fun h=>by cases h) (rfl)
end Go.Proofs.YtbbabfkgdnkehaaGreat
