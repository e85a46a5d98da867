/- Part 13 of a proof: Vj to C1. -/
import Derived.Test.YtbbabfkgdnkehaaGreatM12
import Derived.Test.YtbbabfkgdnkehaaGreatM8
import Derived.Test.YtbbabfkgdnkehaaGreatM11
set_option maxRecDepth 100000
set_option linter.unusedVariables false
set_option linter.unusedSimpArgs false
namespace Go.Proofs.YtbbabfkgdnkehaaGreat
open Go Go.RowKit
def Rg.vlk (R:Rg) (t e:Nat):List (Nat×Nat):=R.vl t++((List.range e).filter (R.isV t)).map fun e=>(t,e)
def Rg.own1 (R:Rg) (U:List Ur) (t k:Nat):List (List (Int×Rat)×Int×Bool):=(List.range R.E).map fun e=>if e<k then(R.wl U e (R.I t++[t]),(R.lp e (t+1)).1,(R.lp e (t+1)).2)else(R.wl U e (R.I t),(R.lp e t).1,(R.lp e t).2)
def Rg.own2 (R:Rg) (U:List Ur) (t k:Nat):List (List (Int×Rat)×Int×Bool):=(List.range R.E).map fun e=>if e<k then(R.wl U e (R.I (t+1)),(R.lp e (t+1)).1,(R.lp e (t+1)).2)else(R.wl U e (R.I t++[t]),(R.lp e (t+1)).1,(R.lp e (t+1)).2)
def Rg.ex (R:Rg) (U:List Ur) (k y e:Nat):Rat:=if y+R.f<k then R.left U y e else 0
def Rg.exk (R:Rg) (U:List Ur) (t e:Nat) (b:Bool) (y e':Nat):Rat:=if e'<e∨(e'=e∧b=true)then R.ex U (t+1) y e' else R.ex U t y e'
section
variable {R:Rg}{U:List Ur}{N y e e' t k:Nat}{p:Ur→Bool}
open Rg
theorem yV (h:∀u∈U,p u=false):oG U p=0:=by
 unfold oG
 rw[List.filter_eq_nil_iff.2 fun u hu=>by rw[h u hu];simp]
 rfl
theorem FB {u:Ur}(h:u∈R.use U y e t):u∈U∨(u.v=y∧u.e=e∧u.y=t):=by
 unfold Rg.use Rg.us at h
 split at h
 ·rcases List.mem_append.1 h with h | h
  ·exact .inl h
  rw[List.mem_singleton]at h
  subst h
  exact .inr ⟨rfl,rfl,rfl⟩
 exact .inl h
theorem Ht {u:Ur}:∀(L:List (Nat×Nat)) (V:List Ur),u∈L.foldl (fun U p=>R.use U p.1 p.2 t) V→u∈V∨∃p∈L,u.v=(p.1:Int)∧u.e=(p.2:Int)∧u.y=t
 | [],V,h=>.inl h
 | p::L,V,h=>by
  rw[List.foldl_cons]at h
  rcases Ht L _ h with h | ⟨q,hq,h⟩
  ·rcases FB h with h | h
   ·exact .inl h
   exact .inr ⟨p,List.mem_cons_self ..,h⟩
  exact .inr ⟨q,List.mem_cons_of_mem _ hq,h⟩
theorem pF {u:Ur}:∀{k:Nat},u∈R.run k→∃y e t:Nat,u.v=y∧u.e=e∧u.y=t∧y<t∧t<k∧R.may t (y,e)=true∧e<R.E
 | 0,h=>by cases h
 | k+1,h=>by
  rcases Ht _ _ h with h | ⟨p,hp,h1,h2,h3⟩
  ·obtain⟨y,e,t,h1,h2,h3,h4,h5,h6⟩:=pF (k:=k) h
   exact⟨y,e,t,h1,h2,h3,h4,by omega,h6⟩
  rw[List.mem_filter,gQ]at hp
  exact⟨p.1,p.2,k,h1,h2,h3,hp.1.1,by omega,hp.2,hp.1.2.1⟩
theorem Mo (h:k≤y+1):fB (R.run k) y e=0:=yV fun u hu=>by
 obtain⟨y',e',t',h1,h2,h3,h4,h5,_⟩:=pF hu
 have:decide (u.v=(y:Int))=false:=decide_eq_false (by omega)
 simp[this]
theorem Hu (h:k≤y+1):R.left (R.run k) y e=R.los y e:=by
 unfold Rg.left
 rw[Mo h]
 grind
theorem FC (h:k≤y):eI (R.run k) y=0:=yV fun u hu=>by
 obtain⟨y',e',t',h1,h2,h3,h4,h5,_⟩:=pF hu
 exact decide_eq_false (by omega)
theorem FD {e:Int}(h:k≤y):fN (R.run k) y e=0:=yV fun u hu=>by
 obtain⟨y',e',t',h1,h2,h3,h4,h5,_⟩:=pF hu
 have:decide (u.y=(y:Int))=false:=decide_eq_false (by omega)
 simp[this]
theorem Ti (h:R.may t (y,e)=false):R.left (R.step U t) y e=R.left U y e:=by
 unfold Rg.step
 exact tN (p:=(y,e)) _ _ fun hm=>by
  have:=(List.mem_filter.1 hm).2
  rw[h]at this
  cases this
theorem Yb:R.ex (R.step U t) t=R.ex U t:=by
 funext y e
 unfold Rg.ex
 by_cases h:y+R.f<t
 ·rw[if_pos h,if_pos h]
  refine Ti ?_
  unfold Rg.may
  have:decide (t≤y+R.f)=false:=decide_eq_false (by omega)
  simp[this]
 rw[if_neg h,if_neg h]
theorem KW (h:t≤y):R.ex U t y e=0:=if_neg (by omega)
theorem CB:∀{t:Nat},(R.lp e t).2=true→(R.lp e t).1<(t:Int)
 | 0,h=>by cases h
 | t+1,h=>by
  unfold Rg.lp at h⊢
  cases hv:R.isV t e
  ·rw[hv]at h
   have:=CB (t:=t) h
   show(R.lp e t).1<_
   omega
  show(t:Int)<_
  omega
theorem Yc:R.vlk t 0=R.vl t:=by simp[Rg.vlk]
theorem FE:R.vlk t R.E=R.vl (t+1):=rfl
theorem FF (h:R.isV t e=true):R.vlk t (e+1)=R.vlk t e++[(t,e)]:=by
 unfold Rg.vlk
 rw[List.range_succ,List.filter_append,List.filter_cons_of_pos h]
 simp
theorem KX (h:R.isV t e=false):R.vlk t (e+1)=R.vlk t e:=by
 unfold Rg.vlk
 rw[List.range_succ,List.filter_append,List.filter_cons_of_neg (by simp[h])]
 simp
theorem Tj:R.own1 U t 0=R.own U (R.I t) t:=by
 unfold Rg.own1 Rg.own
 exact List.map_congr_left fun e _=>if_neg (by omega)
theorem Yd:R.own1 U t R.E=R.own2 U t 0:=by
 unfold Rg.own1 Rg.own2
 exact List.map_congr_left fun e he=>by rw[if_pos (List.mem_range.1 he),if_neg (by omega)]
theorem Ye:R.own2 U t R.E=R.own U (R.I (t+1)) (t+1):=by
 unfold Rg.own2 Rg.own
 exact List.map_congr_left fun e he=>if_pos (List.mem_range.1 he)
theorem Hv (he:e<R.E):cW (R.own1 U t e) e=(R.wl U e (R.I t),(R.lp e t).1,(R.lp e t).2):=by
 have h:=pE (f:=fun e'=>if e'<e then(R.wl U e' (R.I t++[t]),(R.lp e' (t+1)).1,(R.lp e' (t+1)).2)else(R.wl U e' (R.I t),(R.lp e' t).1,(R.lp e' t).2)) (d:=([],0,false)) he
 rw[if_neg (by omega)]at h
 exact h
theorem Yf (he:e<R.E):cW (R.own2 U t e) e=(R.wl U e (R.I t++[t]),(R.lp e (t+1)).1,(R.lp e (t+1)).2):=by
 have h:=pE (f:=fun e'=>if e'<e then(R.wl U e' (R.I (t+1)),(R.lp e' (t+1)).1,(R.lp e' (t+1)).2)else(R.wl U e' (R.I t++[t]),(R.lp e' (t+1)).1,(R.lp e' (t+1)).2)) (d:=([],0,false)) he
 rw[if_neg (by omega)]at h
 exact h
theorem gN:(R.own1 U t k).length=R.E:=by simp[Rg.own1]
theorem yW:(R.own2 U t k).length=R.E:=by simp[Rg.own2]
theorem Hw (he:e<R.E):(R.own1 U t e).set e (R.wl U e (R.I t++[t]),(R.lp e (t+1)).1,(R.lp e (t+1)).2)=R.own1 U t (e+1):=by
 have h:=xI (f:=fun e'=>if e'<e then(R.wl U e' (R.I t++[t]),(R.lp e' (t+1)).1,(R.lp e' (t+1)).2)else(R.wl U e' (R.I t),(R.lp e' t).1,(R.lp e' t).2)) (g:=fun e'=>if e'<e+1 then(R.wl U e' (R.I t++[t]),(R.lp e' (t+1)).1,(R.lp e' (t+1)).2)else(R.wl U e' (R.I t),(R.lp e' t).1,(R.lp e' t).2)) he fun z _ hne=>by
  by_cases h:z<e
  ·rw[if_pos h,if_pos (by omega)]
  rw[if_neg h,if_neg (by omega)]
 rw[if_pos (by omega)]at h
 exact h
theorem Yg (he:e<R.E):(R.own2 U t e).set e (R.wl U e (R.I (t+1)),(R.lp e (t+1)).1,(R.lp e (t+1)).2)=R.own2 U t (e+1):=by
 have h:=xI (f:=fun e'=>if e'<e then(R.wl U e' (R.I (t+1)),(R.lp e' (t+1)).1,(R.lp e' (t+1)).2)else(R.wl U e' (R.I t++[t]),(R.lp e' (t+1)).1,(R.lp e' (t+1)).2)) (g:=fun e'=>if e'<e+1 then(R.wl U e' (R.I (t+1)),(R.lp e' (t+1)).1,(R.lp e' (t+1)).2)else(R.wl U e' (R.I t++[t]),(R.lp e' (t+1)).1,(R.lp e' (t+1)).2)) he fun z _ hne=>by
  by_cases h:z<e
  ·rw[if_pos h,if_pos (by omega)]
  rw[if_neg h,if_neg (by omega)]
 rw[if_pos (by omega)]at h
 exact h
theorem Tk:R.wl U e (R.I t++[t])=R.wl U e (R.I t)++if 0<R.left U t e then [((t:Int),R.left U t e)]else []:=by
 rw[FG]
 congr 1
 by_cases h:0<R.left U t e
 ·rw[jA h,if_pos h]
  rfl
 rw[lE h,if_neg h]
 rfl
theorem FH (he:e<R.E) (h0:∀e,R.left U t e=R.los t e) (hv:R.isV t e=false):R.own1 U t (e+1)=R.own1 U t e:=by
 rw[←Hw he]
 have h1:R.wl U e (R.I t++[t])=R.wl U e (R.I t):=by rw[Tk,h0,Al hv,if_neg (by grind),List.append_nil]
 have h2:R.lp e (t+1)=R.lp e t:=by
  show(bif R.isV t e then _ else _)=_
  rw[hv]
  rfl
 rw[h1,h2,←Hv he]
 apply List.ext_getElem?
 intro i
 rw[List.getElem?_set]
 split
 ·rename_i hi
  subst hi
  rw[if_pos (by rw[gN];exact he),Dx (by rw[gN];exact he)]
 rfl
theorem KY (hv:R.isV t e=true):R.lp e (t+1)=((t:Int),true):=by
 show(bif R.isV t e then _ else _)=_
 rw[hv]
 rfl
theorem Yh:R.exk U t 0 false=R.ex U t:=by
 funext y e
 exact if_neg (by simp)
theorem Hz:R.exk U t e true=R.exk U t (e+1) false:=by
 funext y e'
 unfold Rg.exk
 by_cases h:e'<e∨e'=e
 ·rw[if_pos (by simpa using h),if_pos (.inl (by omega))]
 rw[if_neg (by simpa using h),if_neg (by simp;omega)]
theorem FI (he:e<R.E):R.exk U t R.E false y e=R.ex U (t+1) y e:=if_pos (.inl he)
theorem Yi (hI:R.Iv N U) (ht:t<N) (he:e<R.E) (hE:R.wl U e (R.J t)=[]):R.exk U t e false=R.exk U t e true:=by
 funext y e'
 unfold Rg.exk
 by_cases h:e'<e
 ·rw[if_pos (.inl h),if_pos (.inl h)]
 by_cases h2:e'=e
 ·subst h2
  rw[if_neg (by simp),if_pos (by simp)]
  unfold Rg.ex
  by_cases h3:y+R.f<t
  ·rw[if_pos h3,if_pos (by omega)]
  rw[if_neg h3]
  by_cases h4:y+R.f<t+1
  ·rw[if_pos h4]
   have hy:y∈R.J t:=Ia.2 (by omega)
   have h5:=(hI.v y e' (by omega) he).1.1
   have h6:¬0<R.left U y e':=fun h7=>by
    have:=iG.2 ⟨y,hy,rfl,h7⟩
    rw[hE]at this
    cases this
   grind
  rw[if_neg h4]
 rw[if_neg (by simp;omega),if_neg (by simp;omega)]
theorem Mp:(R.wl U e (R.J t)).length≤1:=by
 have h1:∀x∈R.wl U e (R.J t),x.1=(t:Int)-(R.f:Int):=fun x hx=>by
  obtain⟨i,hi,rfl,_⟩:=iG.1 hx
  have:=Ia.1 hi
  dsimp only
  omega
 have h2:(R.J t).Pairwise (· < ·):=by
  unfold Rg.J
  refine List.Pairwise.filter _ (List.pairwise_append.2 ⟨Pz,List.pairwise_singleton _ _,fun a ha b hb=>?_⟩)
  have:=jT.1 ha
  rw[List.mem_singleton]at hb
  omega
 have h3:=Mq (R:=R) (U:=U) (e:=e) h2
 generalize R.wl U e (R.J t)=L at h1 h3
 match L,h1,h3 with
 | [],_,_=>exact Nat.zero_le _
 | [x],_,_=>exact Nat.le_refl _
 | x::y::L,h1,h3=>
  have h4:=(List.pairwise_cons.1 h3).1 y (List.mem_cons_self ..)
  have h5:=h1 x (List.mem_cons_self ..)
  have h6:=h1 y (List.mem_cons_of_mem _ (List.mem_cons_self ..))
  omega
end
theorem tO (q:Rat):q.num.sign<0↔q<0:=by
 rw[Int.sign_neg_iff]
 have:=Rat.num_nonneg (q:=q)
 constructor
 ·intro h
  rcases Rat.le_total (a:=0) (b:=q)with h1 | h1
  ·have:=this.2 h1;omega
  rcases Rat.le_iff_lt_or_eq.1 h1 with h2 | h2
  ·exact h2
  rw[h2]at h;cases h
 intro h
 rcases Int.lt_or_le q.num 0 with h1 | h1
 ·exact h1
 have:=this.1 h1;grind
theorem Yj {q:Rat}{y last:Int}{put:Bool}(h0:0≤q) (hl:put=true→last<y):dV (bQ (Fr4.of q).s (Fr4.of q).x (Fr4.of q).t (Fr4.of q).y) q y last put=0:=by
 have h1:bQ (Fr4.of q).s (Fr4.of q).x (Fr4.of q).t (Fr4.of q).y=true:=Eb q
 have h2:¬q.num.sign<0:=by
  have:=Rat.num_nonneg.2 h0
  rw[Int.not_lt]
  exact Int.sign_nonneg_iff.2 this
 unfold dV
 rw[h1,if_neg (by simp),if_neg (by simp[h2])]
 cases put with
 | false=>rfl
 | true=>rw[if_neg (by have:=hl rfl;simp;omega)]
theorem Yk {q:Rat}{y:Int}{vs:List (Int×Rat)}:jX 0 q y vs=vs++(if 0<q then [(y,q)]else []):=by
 unfold jX
 rw[if_pos rfl]
 by_cases h:0<q
 ·rw[if_pos (decide_eq_true ((iF q).2 h)),if_pos h]
 rw[if_neg (by simpa using fun h9=>h ((iF q).1 h9)),if_neg h,List.append_nil]
theorem KZ {vs:List (Int×Rat)}{last y:Int}{put:Bool}{q:Rat}(hs:Sz 68719476736 q) (h0:0≤q) (hp:put=true→last<y) (hl:vs.length≤1073741822):aD false Tryz.prog 71 [⟨137,0,[.t (sR 102 vs),tv (.int .i64 last),tv (.bool put)]⟩] [.one (.pt 0 0),.one (tv (.int .i64 y)),qF (.of q)] (Rt [⟨137,0,[.t (sR 102 (vs++if 0<q then [(y,q)]else [])),tv (.int .i64 y),tv (.bool true)]⟩] (.one (tv (.int .i64 0)))):=by
 have h:=PT (last:=last) (y:=y) (put:=put) (Qn.of hs) hl
 rw[Yj h0 hp,Yk]at h
 exact h
theorem FJ (xs:List Vn) (x:Vn):(xs.flatMap (eA false)).map AV.t++(eA false x).map .t=((xs++[x]).flatMap (eA false)).map .t:=by simp[List.flatMap_append]
theorem Yl {R:Rg}{U:List Ur}{x c:Nat→Nat→Rat}{L:List (Nat×Nat)}{p:Nat×Nat}:R.vns U x c L++[R.vn U x c p]=R.vns U x c (L++[p]):=by simp[Rg.vns]
theorem FK {R:Rg}{t e:Nat}(h:R.E≤6) (he:e≤R.E):(R.vlk t e).length≤6*t+6:=by
 unfold Rg.vlk
 have h1:=qA (R:=R) h t
 have h2:=List.length_filter_le (R.isV t) (List.range e)
 rw[List.length_range]at h2
 rw[List.length_append,List.length_map]
 omega
theorem Ib {R:Rg}{N k:Nat}(h:R.Ok N) (hk:k≤N):(R.run k).length≤1000:=by
 have gen:∀k:Nat,k≤10→(R.run k).length≤60*k:=by
  intro k
  induction k with
  | zero=>intro _;exact Nat.le_refl _
  | succ k ih=>
   intro hk
   have h1:=ih (by omega)
   have h2:∀(L:List (Nat×Nat)) (V:List Ur),(L.foldl (fun U p=>R.use U p.1 p.2 k) V).length≤V.length+L.length:=by
    intro L
    induction L with
    | nil=>intro V;simp
    | cons q L ih2=>
     intro V
     have h1:=ih2 (R.use V q.1 q.2 k)
     have h2:(R.use V q.1 q.2 k).length≤V.length+1:=Ml
     rw[List.foldl_cons,List.length_cons]
     omega
   have h3:=h2 ((R.vl k).filter (R.may k)) (R.run k)
   have h4:=List.length_filter_le (R.may k) (R.vl k)
   have h5:=qA (R:=R) h.e k
   show(R.step (R.run k) k).length≤_
   unfold Rg.step
   omega
 have h1:=h.n
 have:=gen k (by omega)
 omega
theorem LA {R:Rg}{N t:Nat}(hOk:R.Ok N) (ht:t<N):aD false Tryz.prog 39 [⟨95,0,[.t (dF true (R.rls (R.run t) t)),.t (cZ true false (R.vns (R.run t) (R.ex (R.run t) t) (fun _ _=>(0:Rat)) (R.vl t))),.t (cN true false (R.run t)),.t (dN (R.own (R.run t) (R.I t) t))]⟩] [.one (.pt 0 0),.one (tv (.int .i64 ((R.f:Nat):Int))),.one (tv (.int .i64 ((t:Nat):Int))),.agg ((R.yrq t).map .t)] (Rt [⟨95,0,[.t (dF true (R.rls (R.run (t+1)) (t+1))),.t (cZ true false (R.vns (R.run (t+1)) (R.ex (R.run (t+1)) (t+1)) (fun _ _=>(0:Rat)) (R.vl (t+1)))),.t (cN true false (R.run (t+1))),.t (dN (R.own (R.run (t+1)) (R.I (t+1)) (t+1)))]⟩] (.tup [])):=by
 refine Py Tryz.func39 rfl Tryz.ntmps39 rfl aA rfl fun N9 M9 w9 c0 h0=>?_
 have hE:=hOk.e;have hN:=hOk.n;have hF:=hOk.f
 have hms:(R.ms t).length=R.E:=oF
 have hbl:((R.bs t).map Fr4.of).length=R.E:=by rw[List.length_map];exact jS
 refine sq ?_;refine rl ?_;refine bx 1 ?_;refine nl ?_;refine sq ?_;refine rl ?_;refine o1 ?_;refine o1 ?_;refine ld ?_;have hrl:=Ib (R:=R) hOk (k:=t) (by omega)
 refine cl 2 [0] (KV (U:=(R.run t)) (x:=(R.ex (R.run t) t)) (c:=(fun _ _=>(0:Rat))) hOk (hOk.run (by omega)) ht (FC (Nat.le_refl _)) (fun e _=>FD (Nat.le_refl _)) hrl) SR ⟨oe rfl rfl,rfl⟩ ⟨rfl,rfl,rfl,rfl⟩ (ok:=[some ⟨95,0,[.t (dF true (R.rls (R.run (t+1)) (t+1))),.t (cZ true false (R.vns (R.run (t+1)) (R.ex (R.run t) t) (fun _ _=>(0:Rat)) (R.vl t))),.t (cN true false (R.run (t+1))),.t (dN (R.own (R.run (t+1)) (R.I t) t))]⟩]) ⟨oe rfl rfl,rfl⟩ ?_
 refine nl ?_;refine sq ?_;refine sq ?_;refine rl ?_;refine o1 ?_;refine ld ?_;refine o1 ?_;refine o1 ?_;refine nl ?_;refine bl ?_
 refine lp (γ:=Nat) (fun s=>cC [(0,.one (.pt 0 0)),(1,.one (tv (.int .i64 ((R.f:Nat):Int)))),(2,.one (tv (.int .i64 ((t:Nat):Int)))),(7,.one (.pt 1 0)),(20,.one (.t (gD (R.ms t)))),(21,.one (tv (.int .i64 (((R.ms t).length:Nat):Int)))),(22,.one (tv (.int .i64 ((s:Nat):Int))))]) (fun s=>[(⟨95,0,[.t (dF true (R.rls (R.run (t+1)) (t+1))),.t (cZ true false (R.vns (R.run (t+1)) (R.ex (R.run t) t) (fun _ _=>(0:Rat)) (R.vlk t s))),.t (cN true false (R.run (t+1))),.t (dN (R.own1 (R.run (t+1)) t s))]⟩:Ob),⟨67,0,(R.yrq t).map .t⟩].map some) (fun s=>s≤R.E) (fun s=>R.E-s) 0 (Nat.zero_le _) (cL h0 [0,1] _ _ (by decide) rfl ⟨rfl,rfl,rfl,rfl,rfl,rfl,rfl,trivial⟩ ⟨oe rfl (by have h9:(some ⟨95,0,[.t (dF true (R.rls (R.run (t+1)) (t+1))),.t (cZ true false (R.vns (R.run (t+1)) (R.ex (R.run t) t) (fun _ _=>(0:Rat)) (R.vl t))),.t (cN true false (R.run (t+1))),.t (dN (R.own (R.run (t+1)) (R.I t) t))]⟩:Option Ob)=some ⟨95,0,[.t (dF true (R.rls (R.run (t+1)) (t+1))),.t (cZ true false (R.vns (R.run (t+1)) (R.ex (R.run t) t) (fun _ _=>(0:Rat)) (R.vlk t 0))),.t (cN true false (R.run (t+1))),.t (dN (R.own1 (R.run (t+1)) t 0))]⟩:=(by rw[Yc,Tj]);exact h9),aI rfl,rfl⟩) ?_
 rintro e he;refine sq ?_;refine rl ?_;refine o1 ?_;refine nl ?_;refine sq ?_;refine bN rfl (fun h1=>?_) (fun h1=>?_)
 ·refine sk ?_;refine sq ?_;refine bl ?_;refine sq ?_;have he9:e<R.E:=by omega
  refine rl ?_;refine o1 ?_;refine o1 ?_;refine dZ ([.v (.bool (pR (R.ms t) (e)))]) (Fn (R.ms t) (k:=e) (by omega)) ?_
  refine o1 ?_;refine o1 ?_;refine nl ?_
  refine md (γ:=Unit) (fun _=>cC [(0,.one (.pt 0 0)),(1,.one (tv (.int .i64 ((R.f:Nat):Int)))),(2,.one (tv (.int .i64 ((t:Nat):Int)))),(7,.one (.pt 1 0)),(8,.one (tv (.int .i64 ((e:Nat):Int)))),(20,.one (.t (gD (R.ms t)))),(21,.one (tv (.int .i64 (((R.ms t).length:Nat):Int)))),(22,.one (tv (.int .i64 ((e:Nat):Int)))),(37,.one (tv (.bool (R.isV t e))))]) (fun _=>([⟨95,0,[.t ((dF true (R.rls (R.run (t+1)) (t+1)))),.t ((cZ true false (R.vns (R.run (t+1)) (R.ex (R.run t) t) (fun _ _=>(0:Rat)) (R.vlk t e)))),.t ((cN true false (R.run (t+1)))),.t ((dN (R.own1 (R.run (t+1)) t e)))]⟩,⟨67,0,[.t (gD (R.ms t)),.t (sQ false ((R.bs t).map Fr4.of)),tv (.bool (aH (R.lim t).num)),.t (sU false (dg 4294967296 (R.lim t).num.natAbs)),tv (.bool false),.t (sU false (dg 4294967296 (R.lim t).den))]⟩]:List Ob).map some) (fun _=>True) ?_ fun _ _=>?_
  ·refine rl ?_;refine o1 ?_;refine WL.splitb (t:=27) rfl (fun h2=>?_) (fun h2=>?_)
   ·refine o1 ?_;refine o1 ?_;(iterate 7 refine dS ?_);refine o1 ?_;refine nl ?_
    exact⟨(),trivial,cL h0 [0,1] _ _ (by decide) rfl ⟨rfl,rfl,rfl,rfl,rfl,rfl,rfl,rfl,Dy (by unfold Rg.isV;rw[←rZ he9];simp only[decide_eq_true h1,h2,Bool.not_true,Bool.not_false,Bool.or_true,Bool.true_or,Bool.false_or,Bool.or_false,Bool.false_eq_true,if_true,if_false,ite_true,ite_false,Bool.and_true,Bool.true_and,Bool.false_and,Bool.and_false,Bool.not_not] <;> first | rfl | (simp;done) | (rw[decide_eq_decide];exact(tO _).symm)),trivial⟩ ⟨oe rfl rfl,oe rfl rfl,rfl⟩⟩
   (iterate 3 refine o1 ?_);refine ld ?_;refine o1 ?_;refine o1 ?_
   refine dZ ((Fr4.of (R.base t e)).tr false) ((by rw[←pX he9,←pT (by rw[jS];exact he9)];exact jR ((R.bs t).map Fr4.of) (k:=e) (by omega))) ?_
   refine ca (iN (Qn.of (p:=(R.base t e)) ((hOk.base t e ht he9).mono (M:=68719476736) (by omega)))) mH ⟨aE rfl,rfl⟩ (.one (tv (.int .i64 (R.base t e).num.sign))) ?_
   refine o1 ?_;refine o1 ?_;refine nl ?_
   exact⟨(),trivial,cL h0 [0,1] _ _ (by decide) rfl ⟨rfl,rfl,rfl,rfl,rfl,rfl,rfl,rfl,Dy (by unfold Rg.isV;rw[←rZ he9];simp only[decide_eq_true h1,h2,Bool.not_true,Bool.not_false,Bool.or_true,Bool.true_or,Bool.false_or,Bool.or_false,Bool.false_eq_true,if_true,if_false,ite_true,ite_false,Bool.and_true,Bool.true_and,Bool.false_and,Bool.and_false,Bool.not_not] <;> first | rfl | (simp;done) | (rw[decide_eq_decide];exact(tO _).symm)),trivial⟩ ⟨oe rfl rfl,oe rfl rfl,rfl⟩⟩
  refine nY rfl (fun h3=>?_) (fun h3=>?_)
  ·refine sq ?_;have hv:R.isV t e=true:=h3
   have hpos:=(sC hv).2
   rw[(sC hv).1]at hpos;have hwl:=sB (R:=R) (U:=(R.run (t+1))) (e:=e) (I:=R.I t)
   have hIl:=sA (R:=R) (k:=t)
   have hsn:Sz 68719476736 (-(R.base t e)):=(vU (hOk.base t e ht he9)).mono (by omega)
   have hO1:(R.own1 (R.run (t+1)) t e).length=R.E:=gN
   have hvl8:=FK (R:=R) hE (t:=t) (e:=e) he
   refine rl ?_;refine o1 ?_;refine ld ?_;refine o1 ?_;refine o1 ?_
   refine dZ ((Fr4.of (R.base t e)).tr false) ((by rw[←pX he9,←pT (by rw[jS];exact he9)];exact jR ((R.bs t).map Fr4.of) (k:=e) (by omega))) ?_
   refine ca (CC (Qn.of (p:=(R.base t e)) ((hOk.base t e ht he9).mono (M:=68719476736) (by omega)))) Ym ⟨aE rfl,rfl⟩ (qF (.of (-(R.base t e)))) ?_
   refine al 2 ?_;refine st ?_;refine nl ?_;refine sq ?_
   refine WP.sub (oB (j:=0) (key:=3) (p:=3) (e:=96) (z:=1) (n:=(R.own1 (R.run (t+1)) t e).length) (trs:=(R.own1 (R.run (t+1)) t e).map dP) rfl rfl rfl rfl rfl) ?_
   refine WP.sub (Hp (j:=3) (key:=4) (p:=e) (e:=137) (trs:=[sR 102 (R.wl (R.run (t+1)) e (R.I t)),.v (.int .i64 (R.lp e t).1),.v (.bool (R.lp e t).2)]) rfl rfl (by rw[xG (by omega),Hv he9];rfl) rfl) ?_
   refine rd [0,1,2,3] (fun i=>[].contains i) mixed ?_
   refine dv 0 ?_;refine dv 1 ?_;refine dv 2 ?_;refine aL 3 ?_;refine dv 4 ?_;refine dv 5 ?_
   refine Pm 6 (l:=(((R.own1 (R.run (t+1)) t e).map dP).map AV.t).set e (.pt 4 0)) (v:=.pt 4 0) (Ak (by rw[kE];omega)) ?_
   refine dv 7 ?_;refine aL 8 ?_
   have hput:=KZ (vs:=(R.wl (R.run (t+1)) e (R.I t))) (last:=(R.lp e t).1) (y:=((t:Nat):Int)) (put:=(R.lp e t).2) (q:=-(R.base t e)) hsn (Rat.le_of_lt hpos) CB (by omega)
   have hpw:(R.wl (R.run (t+1)) e (R.I t))++(if 0< -(R.base t e)then [(((t:Nat):Int),-(R.base t e))]else [])=(R.wl (R.run (t+1)) e (R.I t++[t])):=by rw[Tk,Hu (Nat.le_refl _),(sC hv).1]
   rw[hpw]at hput
   refine Tb 9 5 [4] rfl hput SS ⟨oe rfl rfl,rfl⟩ ⟨rfl,rfl,rfl,rfl⟩ (ok:=[some ⟨137,0,[.t (sR 102 (R.wl (R.run (t+1)) e (R.I t++[t]))),tv (.int .i64 ((t:Nat):Int)),tv (.bool true)]⟩]) ⟨oe rfl rfl,rfl⟩ ⟨rfl,rfl,rfl,rfl,trivial⟩ ?_
   refine aQ ?_
   have hn1:(R.own1 (R.run (t+1)) t e).set e ((R.wl (R.run (t+1)) e (R.I t++[t])),((t:Nat):Int),true)=R.own1 (R.run (t+1)) t (e+1):=by rw[←Hw he9,KY hv]
   refine WP.sub (Cf (j:=3) (k:=4) (p:=e) (e:=137) (trs:=[sR 102 (R.wl (R.run (t+1)) e (R.I t++[t])),.v (.int .i64 ((t:Nat):Int)),.v (.bool true)]) (l':=((R.own1 (R.run (t+1)) t (e+1)).map dP).map .t) rfl rfl rfl (List.getElem?_set_self (by rw[kE];omega)) ((Ho (x:=((R.wl (R.run (t+1)) e (R.I t++[t])),((t:Nat):Int),true))).trans (by rw[hn1]))) ?_
   refine WP.sub (iZ (j:=0) (k:=3) (p:=3) (e:=96) (z:=1) (n:=(R.own1 (R.run (t+1)) t e).length) (trs:=(R.own1 (R.run (t+1)) t (e+1)).map dP) rfl rfl rfl rfl rfl (cD _ _ (by rw[List.length_map,gN,gN];omega)) (by rw[List.length_map,gN,gN];omega) rfl) ?_
   refine WP.sub (oB (j:=0) (key:=5) (p:=1) (e:=64) (z:=18) (n:=(R.vns (R.run (t+1)) (R.ex (R.run t) t) (fun _ _=>(0:Rat)) (R.vlk t e)).length) (trs:=(R.vns (R.run (t+1)) (R.ex (R.run t) t) (fun _ _=>(0:Rat)) (R.vlk t e)).flatMap (eA false)) rfl rfl rfl rfl rfl) ?_
   refine rd [0,1,2] (fun i=>[18].contains i) mixed ?_
   refine dv 0 ?_;refine dv 1 ?_;refine dv 2 ?_;refine dv 3 ?_;refine dv 4 ?_;refine aL 5 ?_;refine dv 6 ?_;refine dv 7 ?_;refine aL 8 ?_
   refine aR 9 rfl (fF (z:=0) (by omega) (by omega)) lM ⟨a1 rfl,rfl⟩ (qF (.of ((0:Int):Rat))) ?_
   refine aR 10 rfl (fF (z:=0) (by omega) (by omega)) lM ⟨a1 rfl,rfl⟩ (qF (.of ((0:Int):Rat))) ?_
   refine aR 11 rfl (fF (z:=0) (by omega) (by omega)) lM ⟨a1 rfl,rfl⟩ (qF (.of ((0:Int):Rat))) ?_
   refine df 12 ?_;refine kT (key:=6) 13 (by kernel_rfl) rfl rfl aA rfl ⟨rfl,rfl,rfl,trivial⟩ ?_
   refine oE (j:=7) (n:=(R.vns (R.run (t+1)) (R.ex (R.run t) t) (fun _ _=>(0:Rat)) (R.vlk t e)).length) (l:=((R.vns (R.run (t+1)) (R.ex (R.run t) t) (fun _ _=>(0:Rat)) (R.vlk t e)).flatMap (eA false)).map .t) 14 rfl aA rfl rfl rfl (.sl rfl (by rw[List.length_map,cM (dQ false)])) (.sl rfl rfl rfl) rfl rfl (by rw[eQ];omega) (by rw[eQ];omega) rfl ⟨rfl,rfl,rfl,trivial⟩ rfl (by kernel_rfl) rfl ?_
   refine eZ 15 (by kernel_rfl) rfl rfl aA rfl (by trivial) ?_ (fun h=>by first | rfl | cases h)
   refine eZ 16 (by kernel_rfl) rfl rfl aA rfl (by trivial) ?_ (fun h=>by first | rfl | cases h)
   refine df 17 ?_;refine dst 18 ?_;refine aQ ?_
   have hfin:R.vns (R.run (t+1)) (R.ex (R.run t) t) (fun _ _=>(0:Rat)) (R.vlk t e)++[⟨((t:Nat):Int),((e:Nat):Int),-(R.base t e),((0:Int):Rat),((0:Int):Rat),((0:Int):Rat)⟩]=R.vns (R.run (t+1)) (R.ex (R.run t) t) (fun _ _=>(0:Rat)) (R.vlk t (e+1)):=by
    rw[FF hv,←Yl];unfold Rg.vn;rw[Mo (Nat.le_refl _),KW (Nat.le_refl _),(sC hv).1];rfl
   have hlen9:(R.vns (R.run (t+1)) (R.ex (R.run t) t) (fun _ _=>(0:Rat)) (R.vlk t (e+1))).length=(R.vns (R.run (t+1)) (R.ex (R.run t) t) (fun _ _=>(0:Rat)) (R.vlk t e)).length+1:=by rw[←hfin,List.length_append];rfl
   refine WP.sub (iZ (j:=0) (k:=7) (p:=1) (e:=64) (z:=18) (n:=(R.vns (R.run (t+1)) (R.ex (R.run t) t) (fun _ _=>(0:Rat)) (R.vlk t e)).length+1) (trs:=(R.vns (R.run (t+1)) (R.ex (R.run t) t) (fun _ _=>(0:Rat)) (R.vlk t (e+1))).flatMap (eA false)) rfl rfl rfl (congrArg (fun l:List AV=>some (⟨64,18,l⟩:Ob)) ((FJ (R.vns (R.run (t+1)) (R.ex (R.run t) t) (fun _ _=>(0:Rat)) (R.vlk t e)) ⟨((t:Nat):Int),((e:Nat):Int),-(R.base t e),((0:Int):Rat),((0:Int):Rat),((0:Int):Rat)⟩).trans (by rw[hfin]))) rfl (cD _ _ (by rw[cM (dQ false),hlen9])) (by rw[cM (dQ false),hlen9]) rfl) ?_
   refine rl ?_;refine o1 ?_;refine WL.cast (t:=72) (u':=.int .i64 ((e+1:Nat):Int)) rfl (aC (by omega)) ?_
   refine o1 ?_;refine nl ?_
   exact⟨e+1,by omega,by omega,cL h0 [0,1] _ _ (by decide) rfl ⟨rfl,rfl,rfl,rfl,rfl,rfl,rfl,trivial⟩ ⟨oe rfl (by have h9:(some ⟨95,0,[.t (dF true (R.rls (R.run (t+1)) (t+1))),.t (.s true 64 18 ((R.vns (R.run (t+1)) (R.ex (R.run t) t) (fun _ _=>(0:Rat)) (R.vlk t e)).length+1) ((R.vns (R.run (t+1)) (R.ex (R.run t) t) (fun _ _=>(0:Rat)) (R.vlk t (e+1))).flatMap (eA false))),.t (cN true false (R.run (t+1))),.t (.s true 96 1 (R.own1 (R.run (t+1)) t e).length ((R.own1 (R.run (t+1)) t (e+1)).map dP))]⟩:Option Ob)=some ⟨95,0,[.t (dF true (R.rls (R.run (t+1)) (t+1))),.t (cZ true false (R.vns (R.run (t+1)) (R.ex (R.run t) t) (fun _ _=>(0:Rat)) (R.vlk t (e+1)))),.t (cN true false (R.run (t+1))),.t (dN (R.own1 (R.run (t+1)) t (e+1)))]⟩:=(by rw[cZ,dN,hlen9,gN,gN]);exact h9),aI rfl,rfl⟩⟩
  refine sk ?_;have hv:R.isV t e=false:=h3
  refine rl ?_;refine o1 ?_;refine WL.cast (t:=72) (u':=.int .i64 ((e+1:Nat):Int)) rfl (aC (by omega)) ?_
  refine o1 ?_;refine nl ?_;have hv1:R.vlk t (e+1)=R.vlk t e:=KX hv
  have hv2:R.own1 (R.run (t+1)) t (e+1)=R.own1 (R.run (t+1)) t e:=FH he9 (fun e=>Hu (Nat.le_refl _)) hv
  exact⟨e+1,by omega,by omega,cL h0 [0,1] _ _ (by decide) rfl ⟨rfl,rfl,rfl,rfl,rfl,rfl,rfl,trivial⟩ ⟨oe rfl (by have h9:(some ⟨95,0,[.t (dF true (R.rls (R.run (t+1)) (t+1))),.t (cZ true false (R.vns (R.run (t+1)) (R.ex (R.run t) t) (fun _ _=>(0:Rat)) (R.vlk t e))),.t (cN true false (R.run (t+1))),.t (dN (R.own1 (R.run (t+1)) t e))]⟩:Option Ob)=some ⟨95,0,[.t (dF true (R.rls (R.run (t+1)) (t+1))),.t (cZ true false (R.vns (R.run (t+1)) (R.ex (R.run t) t) (fun _ _=>(0:Rat)) (R.vlk t (e+1)))),.t (cN true false (R.run (t+1))),.t (dN (R.own1 (R.run (t+1)) t (e+1)))]⟩:=(by rw[hv1,hv2]);exact h9),aI rfl,rfl⟩⟩
 refine ex ?_;refine sq ?_;have hee:e=R.E:=by omega
 subst hee;refine WP.sub (oB (j:=0) (key:=2) (p:=3) (e:=96) (z:=1) (n:=(R.own1 (R.run (t+1)) t R.E).length) (trs:=(R.own1 (R.run (t+1)) t R.E).map dP) rfl rfl rfl rfl rfl) ?_
 refine rl ?_;(iterate 3 refine o1 ?_);refine ld ?_;refine o1 ?_;refine o1 ?_;refine nl ?_;refine bl ?_
 have hx0:R.exk (R.run (t+1)) t 0 false=(R.ex (R.run t) t):=by rw[Yh];exact Yb
 refine lp (γ:=Nat) (fun s=>cC [(0,.one (.pt 0 0)),(1,.one (tv (.int .i64 ((R.f:Nat):Int)))),(2,.one (tv (.int .i64 ((t:Nat):Int)))),(76,.one (.sl 1 0 (R.E))),(77,.one (tv (.int .i64 ((R.E:Nat):Int)))),(78,.one (tv (.int .i64 ((s:Nat):Int))))]) (fun s=>[(⟨95,0,[.t (dF true (R.rls (R.run (t+1)) (t+1))),.t (cZ true false (R.vns (R.run (t+1)) (R.exk (R.run (t+1)) t s false) (fun _ _=>(0:Rat)) (R.vl (t+1)))),.t (cN true false (R.run (t+1))),.sl 1 0 R.E]⟩:Ob),⟨96,1,((R.own2 (R.run (t+1)) t s).map dP).map .t⟩].map some) (fun s=>s≤R.E) (fun s=>R.E-s) 0 (Nat.zero_le _) (cL h0 [0,2] _ _ (by decide) rfl ⟨rfl,rfl,rfl,(by rw[gN];rfl),Gw (by rw[gN]),rfl,trivial⟩ ⟨oe rfl (by have h9:(some ⟨95,0,[.t (dF true (R.rls (R.run (t+1)) (t+1))),.t (cZ true false (R.vns (R.run (t+1)) (R.ex (R.run t) t) (fun _ _=>(0:Rat)) (R.vlk t R.E))),.t (cN true false (R.run (t+1))),.sl 2 0 (R.own1 (R.run (t+1)) t R.E).length]⟩:Option Ob)=some ⟨95,0,[.t (dF true (R.rls (R.run (t+1)) (t+1))),.t (cZ true false (R.vns (R.run (t+1)) (R.exk (R.run (t+1)) t 0 false) (fun _ _=>(0:Rat)) (R.vl (t+1)))),.t (cN true false (R.run (t+1))),.sl 2 0 R.E]⟩:=(by rw[hx0,gN,FE]);exact h9),aI (by have h9:(some ⟨96,1,((R.own1 (R.run (t+1)) t R.E).map dP).map .t⟩:Option Ob)=some ⟨96,1,((R.own2 (R.run (t+1)) t 0).map dP).map .t⟩:=(by rw[Yd]);exact h9),rfl⟩) ?_
 rintro q hq;refine sq ?_;refine rl ?_;refine o1 ?_;refine nl ?_;refine sq ?_;refine bN rfl (fun h4=>?_) (fun h4=>?_)
 ·refine sk ?_;refine sq ?_;refine bl ?_;refine sq ?_;have hq9:q<R.E:=by omega
  have hIv:=hOk.run (k:=t+1) (by omega)
  have hal:=sB (R:=R) (U:=(R.run (t+1))) (e:=q) (I:=R.I t++[t])
  rw[List.length_append,List.length_singleton]at hal;have hIl:=sA (R:=R) (k:=t)
  have hzz:∀x∈(R.wl (R.run (t+1)) q (R.I t++[t])),Sz 68719476736 x.2:=fun x hx=>by obtain⟨i,hi,rfl,_⟩:=iG.1 hx;exact(hIv.sz_left hOk (by rcases List.mem_append.1 hi with h | h;(have:=(jT.1 h).1;omega);(rw[List.mem_singleton]at h;omega)) hq9).mono (by omega)
  have hexp:=Xr (vs:=(R.wl (R.run (t+1)) q (R.I t++[t]))) (last:=(R.lp q (t+1)).1) (put:=(R.lp q (t+1)).2) (b:=((t:Nat):Int)-((R.f:Nat):Int)+1) (by omega) hzz
  rw[LB,LC]at hexp
  refine WP.sub (Hp (j:=1) (key:=2) (p:=q) (e:=137) (trs:=[sR 102 (R.wl (R.run (t+1)) q (R.I t++[t])),.v (.int .i64 (R.lp q (t+1)).1),.v (.bool (R.lp q (t+1)).2)]) rfl rfl (by rw[xG (by rw[yW];exact hq9),Yf hq9];rfl) rfl) ?_
  refine rl ?_;refine o1 ?_;refine o1 ?_;refine Ly (l:=(((R.own2 (R.run (t+1)) t q).map dP).map AV.t).set q (.pt 2 0)) (v:=.pt 2 0) (Ak (by rw[kE,yW];exact hq9)) ?_
  refine o1 ?_;refine o1 ?_;refine nl ?_;refine sq ?_;refine rl ?_;(iterate 5 refine o1 ?_)
  refine cl 3 [2] hexp ST ⟨oe rfl rfl,rfl⟩ ⟨rfl,rfl,rfl⟩ (ok:=[some ⟨137,0,[.t (sR 102 (R.wl (R.run (t+1)) q (R.I (t+1)))),tv (.int .i64 (R.lp q (t+1)).1),tv (.bool (R.lp q (t+1)).2)]⟩]) ⟨oe rfl rfl,rfl⟩ ?_
  refine o1 ?_;refine o1 ?_;refine nl ?_;refine bl ?_
  refine WP.sub (KO (i:=88) (k:=3) (n:=(R.wl (R.run (t+1)) q (R.J t)).length) 102 rfl rfl rfl (bK true _) (xF true _) (.one .sl)) ?_
  refine WP.sub (Cf (j:=1) (k:=2) (p:=q) (e:=137) (trs:=[sR 102 (R.wl (R.run (t+1)) q (R.I (t+1))),.v (.int .i64 (R.lp q (t+1)).1),.v (.bool (R.lp q (t+1)).2)]) (l':=((R.own2 (R.run (t+1)) t (q+1)).map dP).map .t) rfl rfl rfl (List.getElem?_set_self (by rw[kE,yW];exact hq9)) ((Ho (x:=((R.wl (R.run (t+1)) q (R.I (t+1))),(R.lp q (t+1)).1,(R.lp q (t+1)).2))).trans (by rw[Yg hq9]))) ?_
  refine WP.sub (oB (j:=0) (key:=4) (p:=1) (e:=64) (z:=18) (n:=(R.vns (R.run (t+1)) (R.exk (R.run (t+1)) t q false) (fun _ _=>(0:Rat)) (R.vl (t+1))).length) (trs:=(R.vns (R.run (t+1)) (R.exk (R.run (t+1)) t q false) (fun _ _=>(0:Rat)) (R.vl (t+1))).flatMap (eA false)) rfl rfl rfl rfl rfl) ?_
  refine lp (γ:=Nat) (fun s=>cC [(0,.one (.pt 0 0)),(1,.one (tv (.int .i64 ((R.f:Nat):Int)))),(2,.one (tv (.int .i64 ((t:Nat):Int)))),(11,.one (tv (.int .i64 ((q:Nat):Int)))),(76,.one (.sl 1 0 (R.E))),(77,.one (tv (.int .i64 ((R.E:Nat):Int)))),(78,.one (tv (.int .i64 ((q:Nat):Int)))),(88,.one (.t (sV 102 false (R.wl (R.run (t+1)) q (R.J t))))),(89,.one (tv (.int .i64 (((R.wl (R.run (t+1)) q (R.J t)).length:Nat):Int)))),(90,.one (tv (.int .i64 ((s:Nat):Int))))]) (fun s=>[(⟨95,0,[.t (dF true (R.rls (R.run (t+1)) (t+1))),.sl 2 0 (R.vl (t+1)).length,.t (cN true false (R.run (t+1))),.sl 1 0 R.E]⟩:Ob),⟨96,1,((R.own2 (R.run (t+1)) t (q+1)).map dP).map .t⟩,⟨64,18,((R.vns (R.run (t+1)) (R.exk (R.run (t+1)) t q (decide (0<s))) (fun _ _=>(0:Rat)) (R.vl (t+1))).flatMap (eA false)).map .t⟩].map some) (fun s=>s≤(R.wl (R.run (t+1)) q (R.J t)).length) (fun s=>(R.wl (R.run (t+1)) q (R.J t)).length-s) 0 (Nat.zero_le _) (cL h0 [0,1,4] _ _ (by decide) rfl ⟨rfl,rfl,rfl,rfl,rfl,rfl,rfl,rfl,rfl,rfl,trivial⟩ ⟨oe rfl (by have h9:(some ⟨95,0,[.t (dF true (R.rls (R.run (t+1)) (t+1))),.sl 4 0 (R.vns (R.run (t+1)) (R.exk (R.run (t+1)) t q false) (fun _ _=>(0:Rat)) (R.vl (t+1))).length,.t (cN true false (R.run (t+1))),.sl 1 0 R.E]⟩:Option Ob)=some ⟨95,0,[.t (dF true (R.rls (R.run (t+1)) (t+1))),.sl 4 0 (R.vl (t+1)).length,.t (cN true false (R.run (t+1))),.sl 1 0 R.E]⟩:=(by rw[eQ]);exact h9),aI rfl,aI rfl,rfl⟩) ?_
  rintro k hk;refine sq ?_;refine rl ?_;refine o1 ?_;refine nl ?_;refine sq ?_;refine bN rfl (fun h5=>?_) (fun h5=>?_)
  ·refine sk ?_;refine sq ?_;refine bl ?_;refine sq ?_;refine rl ?_;refine o1 ?_;refine dZ (cF false (aJ (R.wl (R.run (t+1)) q (R.J t)) (k))) (rW false (by omega)) ?_
   refine al 3 ?_;refine st ?_;refine nl ?_;have hJ1:=Mp (R:=R) (U:=(R.run (t+1))) (e:=q) (t:=t)
   obtain⟨j,hj,hxe,hjp⟩:=iG.1 (nF (vs:=(R.wl (R.run (t+1)) q (R.J t))) (k:=k) (by omega))
   have hj9:=Ia.1 hj
   have hx1:(aJ (R.wl (R.run (t+1)) q (R.J t)) (k)).1=((j:Nat):Int):=by rw[hxe]
   have hx2:(aJ (R.wl (R.run (t+1)) q (R.J t)) (k)).2=R.left (R.run (t+1)) j q:=by rw[hxe]
   have hk0:k=0:=by omega
   have hjv:R.isV j q=true:=by
    have h6:=(hIv.v j q (by omega) hq9).1.2
    cases h8:R.isV j q
    ·rw[Al h8]at h6
     grind
    rfl
   have hjm:(j,q)∈R.vl (t+1):=gQ.2 ⟨by dsimp only;omega,hq9,hjv⟩
   have hfi:(cO (bZ (aJ (R.wl (R.run (t+1)) q (R.J t)) (k)).1 ((q:Nat):Int)) (R.vns (R.run (t+1)) (R.exk (R.run (t+1)) t q (decide (0<k))) (fun _ _=>(0:Rat)) (R.vl (t+1))))<(R.vns (R.run (t+1)) (R.exk (R.run (t+1)) t q (decide (0<k))) (fun _ _=>(0:Rat)) (R.vl (t+1))).length:=by rw[hx1,eQ];exact(vL hjm).1
   have hvl9:=qA (R:=R) hE (t+1)
   have hge:(R.vns (R.run (t+1)) (R.exk (R.run (t+1)) t q (decide (0<k))) (fun _ _=>(0:Rat)) (R.vl (t+1)))[(cO (bZ (aJ (R.wl (R.run (t+1)) q (R.J t)) (k)).1 ((q:Nat):Int)) (R.vns (R.run (t+1)) (R.exk (R.run (t+1)) t q (decide (0<k))) (fun _ _=>(0:Rat)) (R.vl (t+1))))]? =some (R.vn (R.run (t+1)) (R.exk (R.run (t+1)) t q (decide (0<k))) (fun _ _=>(0:Rat)) (j,q)):=by rw[hx1];exact wX hjm
   have hset:(R.vns (R.run (t+1)) (R.exk (R.run (t+1)) t q (decide (0<k))) (fun _ _=>(0:Rat)) (R.vl (t+1))).set (cO (bZ (aJ (R.wl (R.run (t+1)) q (R.J t)) (k)).1 ((q:Nat):Int)) (R.vns (R.run (t+1)) (R.exk (R.run (t+1)) t q (decide (0<k))) (fun _ _=>(0:Rat)) (R.vl (t+1)))) (⟨(R.vn (R.run (t+1)) (R.exk (R.run (t+1)) t q (decide (0<k))) (fun _ _=>(0:Rat)) (j,q)).y,(R.vn (R.run (t+1)) (R.exk (R.run (t+1)) t q (decide (0<k))) (fun _ _=>(0:Rat)) (j,q)).e,(R.vn (R.run (t+1)) (R.exk (R.run (t+1)) t q (decide (0<k))) (fun _ _=>(0:Rat)) (j,q)).l,(R.vn (R.run (t+1)) (R.exk (R.run (t+1)) t q (decide (0<k))) (fun _ _=>(0:Rat)) (j,q)).u,(aJ (R.wl (R.run (t+1)) q (R.J t)) (k)).2,(R.vn (R.run (t+1)) (R.exk (R.run (t+1)) t q (decide (0<k))) (fun _ _=>(0:Rat)) (j,q)).c⟩:Vn)=(R.vns (R.run (t+1)) (R.exk (R.run (t+1)) t q (decide (0<(k+1)))) (fun _ _=>(0:Rat)) (R.vl (t+1))):=by
    rw[hx1,hx2]
    have h9:=Bz (R:=R) (U:=(R.run (t+1))) (U':=(R.run (t+1))) (x:=(R.exk (R.run (t+1)) t q (decide (0<k)))) (x':=(R.exk (R.run (t+1)) t q (decide (0<(k+1))))) (c:=(fun _ _=>(0:Rat))) (c':=(fun _ _=>(0:Rat))) (pY (t+1)) hjm fun p _ hp=>by
     unfold Rg.vn;have h8:(R.exk (R.run (t+1)) t q (decide (0<k))) p.1 p.2=(R.exk (R.run (t+1)) t q (decide (0<(k+1)))) p.1 p.2:=by
      subst hk0;unfold Rg.exk;by_cases h5:p.2<q
      ·rw[if_pos (.inl h5),if_pos (.inl h5)]
      by_cases h6:p.2=q
      ·have h7:p.1≠j:=fun h=>hp (Prod.ext h h6)
       rw[if_neg (by simp;omega),if_pos (.inr ⟨h6,by simp⟩)]
       unfold Rg.ex;by_cases h4:p.1+R.f<t
       ·rw[if_pos h4,if_pos (by omega)]
       rw[if_neg h4,if_neg (by omega)]
      rw[if_neg (by simp;omega),if_neg (by simp;omega)]
     rw[h8]
    rw[←h9];unfold Rg.vn;have h7:(R.exk (R.run (t+1)) t q (decide (0<(k+1)))) j q=R.left (R.run (t+1)) j q:=by
     unfold Rg.exk Rg.ex;rw[if_pos (by simp),if_pos (by omega)]
    rw[h7]
   refine rd [3] (fun i=>[9].contains i) mixed ?_
   refine dv 0 ?_;refine dv 1 ?_;refine aL 2 ?_;refine dv 3 ?_;refine dv 5 ?_;refine aL 6 ?_
   have hvi:=Aj (vs:=(R.vns (R.run (t+1)) (R.exk (R.run (t+1)) t q (decide (0<k))) (fun _ _=>(0:Rat)) (R.vl (t+1)))) (y:=(aJ (R.wl (R.run (t+1)) q (R.J t)) (k)).1) (e:=((q:Nat):Int)) (ra:=(dF true (R.rls (R.run (t+1)) (t+1)))) (rb:=(cN true false (R.run (t+1)))) (rc:=.v (.bool false)) (m:=R.E) (l3:=(R.own2 (R.run (t+1)) t (q+1)).map dP) hfi (by rw[eQ];omega)
   rw[show(R.vns (R.run (t+1)) (R.exk (R.run (t+1)) t q (decide (0<k))) (fun _ _=>(0:Rat)) (R.vl (t+1))).length=(R.vl (t+1)).length from eQ]at hvi
   refine JL 4 [0,2,1] rfl hvi Xu ⟨oe rfl rfl,aI rfl,aI rfl,rfl⟩ ⟨rfl,rfl,rfl,rfl⟩ (ok:=[some ⟨95,0,[.t (dF true (R.rls (R.run (t+1)) (t+1))),.sl 2 0 (R.vl (t+1)).length,.t (cN true false (R.run (t+1))),.sl 1 0 R.E]⟩,some ⟨64,18,((R.vns (R.run (t+1)) (R.exk (R.run (t+1)) t q (decide (0<k))) (fun _ _=>(0:Rat)) (R.vl (t+1))).flatMap (eA false)).map .t⟩,some ⟨96,1,((R.own2 (R.run (t+1)) t (q+1)).map dP).map .t⟩]) ⟨oe rfl rfl,aI rfl,aI rfl,rfl⟩ ⟨rfl,trivial⟩ ?_
   refine eZ 7 (by kernel_rfl) rfl rfl aA rfl (by trivial) ?_ (fun h=>by first | rfl | cases h)
   refine df 8 ?_
   refine mF 9 (dM (xs:=(R.vns (R.run (t+1)) (R.exk (R.run (t+1)) t q (decide (0<k))) (fun _ _=>(0:Rat)) (R.vl (t+1)))) (k:=(cO (bZ (aJ (R.wl (R.run (t+1)) q (R.J t)) (k)).1 ((q:Nat):Int)) (R.vns (R.run (t+1)) (R.exk (R.run (t+1)) t q (decide (0<k))) (fun _ _=>(0:Rat)) (R.vl (t+1))))) (x:=(R.vn (R.run (t+1)) (R.exk (R.run (t+1)) t q (decide (0<k))) (fun _ _=>(0:Rat)) (j,q))) (f:=(eA false)) (z:=18) (o:=10) (x':=(⟨(R.vn (R.run (t+1)) (R.exk (R.run (t+1)) t q (decide (0<k))) (fun _ _=>(0:Rat)) (j,q)).y,(R.vn (R.run (t+1)) (R.exk (R.run (t+1)) t q (decide (0<k))) (fun _ _=>(0:Rat)) (j,q)).e,(R.vn (R.run (t+1)) (R.exk (R.run (t+1)) t q (decide (0<k))) (fun _ _=>(0:Rat)) (j,q)).l,(R.vn (R.run (t+1)) (R.exk (R.run (t+1)) t q (decide (0<k))) (fun _ _=>(0:Rat)) (j,q)).u,(aJ (R.wl (R.run (t+1)) q (R.J t)) (k)).2,(R.vn (R.run (t+1)) (R.exk (R.run (t+1)) t q (decide (0<k))) (fun _ _=>(0:Rat)) (j,q)).c⟩:Vn)) (us:=(Fr4.of (aJ (R.wl (R.run (t+1)) q (R.J t)) (k)).2).tr false) (dQ false) (hge) (Nat.le_of_ble_eq_true rfl) rfl) (eM (xs:=(R.vns (R.run (t+1)) (R.exk (R.run (t+1)) t q (decide (0<k))) (fun _ _=>(0:Rat)) (R.vl (t+1)))) (k:=(cO (bZ (aJ (R.wl (R.run (t+1)) q (R.J t)) (k)).1 ((q:Nat):Int)) (R.vns (R.run (t+1)) (R.exk (R.run (t+1)) t q (decide (0<k))) (fun _ _=>(0:Rat)) (R.vl (t+1))))) (f:=(eA false)) (z:=18) (o:=10) (us:=(Fr4.of (aJ (R.wl (R.run (t+1)) q (R.J t)) (k)).2).tr false) (dQ false) (by omega) (Nat.le_of_ble_eq_true rfl)) ?_
   refine aQ ?_;refine rl ?_;refine o1 ?_;refine WL.cast (t:=103) (u':=.int .i64 ((k+1:Nat):Int)) rfl (aC (by omega)) ?_
   refine o1 ?_;refine nl ?_
   exact⟨k+1,by omega,by omega,cL h0 [0,1,2] _ _ (by decide) rfl ⟨rfl,rfl,rfl,rfl,rfl,rfl,rfl,rfl,rfl,rfl,trivial⟩ ⟨oe rfl rfl,aI rfl,aI (congrArg (fun l:List Vn=>some (⟨64,18,(l.flatMap (eA false)).map .t⟩:Ob)) hset),rfl⟩⟩
  refine ex ?_;have hJ1:=Mp (R:=R) (U:=(R.run (t+1))) (e:=q) (t:=t)
  have hxk:(R.exk (R.run (t+1)) t q (decide (0<k)))=(R.exk (R.run (t+1)) t (q+1) false):=by
   by_cases hk0:0<k
   ·rw[decide_eq_true hk0]
    exact Hz
   have hE0:(R.wl (R.run (t+1)) q (R.J t))=[]:=List.eq_nil_of_length_eq_zero (by omega)
   rw[decide_eq_false hk0,Yi hIv ht hq9 hE0];exact Hz
  refine WP.sub (iZ (j:=0) (k:=2) (p:=1) (e:=64) (z:=18) (n:=(R.vl (t+1)).length) (trs:=(R.vns (R.run (t+1)) (R.exk (R.run (t+1)) t (q+1) false) (fun _ _=>(0:Rat)) (R.vl (t+1))).flatMap (eA false)) rfl rfl rfl (congrArg (fun x:Nat→Nat→Rat=>some (⟨64,18,((R.vns (R.run (t+1)) x (fun _ _=>(0:Rat)) (R.vl (t+1))).flatMap (eA false)).map .t⟩:Ob)) hxk) rfl (cD _ _ (by rw[cM (dQ false),eQ])) (by rw[cM (dQ false),eQ]) rfl) ?_
  refine rl ?_;refine o1 ?_;refine WL.cast (t:=104) (u':=.int .i64 ((q+1:Nat):Int)) rfl (aC (by omega)) ?_
  refine o1 ?_;refine nl ?_
  exact⟨q+1,by omega,by omega,cL h0 [0,1] _ _ (by decide) rfl ⟨rfl,rfl,rfl,rfl,rfl,rfl,trivial⟩ ⟨oe rfl (by have h9:(some ⟨95,0,[.t (dF true (R.rls (R.run (t+1)) (t+1))),.t (.s true 64 18 (R.vl (t+1)).length ((R.vns (R.run (t+1)) (R.exk (R.run (t+1)) t (q+1) false) (fun _ _=>(0:Rat)) (R.vl (t+1))).flatMap (eA false))),.t (cN true false (R.run (t+1))),.sl 1 0 R.E]⟩:Option Ob)=some ⟨95,0,[.t (dF true (R.rls (R.run (t+1)) (t+1))),.t (cZ true false (R.vns (R.run (t+1)) (R.exk (R.run (t+1)) t (q+1) false) (fun _ _=>(0:Rat)) (R.vl (t+1)))),.t (cN true false (R.run (t+1))),.sl 1 0 R.E]⟩:=(by rw[cZ,eQ]);exact h9),aI rfl,rfl⟩⟩
 refine ex ?_;have hqq:q=R.E:=by omega
 subst hqq
 refine BZ (iZ (j:=0) (k:=1) (p:=3) (e:=96) (z:=1) (n:=R.E) (trs:=(R.own (R.run (t+1)) (R.I (t+1)) (t+1)).map dP) rfl rfl rfl (congrArg (fun l:List (List (Int×Rat)×Int×Bool)=>some (⟨96,1,(l.map dP).map .t⟩:Ob)) Ye) rfl (cD _ _ (by rw[List.length_map,jV];omega)) (by rw[List.length_map,jV];omega) rfl) ?_
 have hvx:(R.vns (R.run (t+1)) (R.exk (R.run (t+1)) t R.E false) (fun _ _=>(0:Rat)) (R.vl (t+1)))=(R.vns (R.run (t+1)) (R.ex (R.run (t+1)) (t+1)) (fun _ _=>(0:Rat)) (R.vl (t+1))):=List.map_congr_left fun p hp=>by
  unfold Rg.vn;rw[FI (gQ.1 hp).2.1]
 exact Cg <| gP (lent':=[⟨95,0,[.t (dF true (R.rls (R.run (t+1)) (t+1))),.t (cZ true false (R.vns (R.run (t+1)) (R.ex (R.run (t+1)) (t+1)) (fun _ _=>(0:Rat)) (R.vl (t+1)))),.t (cN true false (R.run (t+1))),.t (dN (R.own (R.run (t+1)) (R.I (t+1)) (t+1)))]⟩]) (.inr rfl) rfl pU (by decide) (fun _ h=>by cases h) ⟨⟨rfl,rfl⟩,trivial⟩ ⟨(by have h9:(some ⟨95,0,[.t (dF true (R.rls (R.run (t+1)) (t+1))),.t (cZ true false (R.vns (R.run (t+1)) (R.exk (R.run (t+1)) t R.E false) (fun _ _=>(0:Rat)) (R.vl (t+1)))),.t (cN true false (R.run (t+1))),.t (.s true 96 1 R.E ((R.own (R.run (t+1)) (R.I (t+1)) (t+1)).map dP))]⟩:Option Ob)=some ⟨95,0,[.t (dF true (R.rls (R.run (t+1)) (t+1))),.t (cZ true false (R.vns (R.run (t+1)) (R.ex (R.run (t+1)) (t+1)) (fun _ _=>(0:Rat)) (R.vl (t+1)))),.t (cN true false (R.run (t+1))),.t (dN (R.own (R.run (t+1)) (R.I (t+1)) (t+1)))]⟩:=(by rw[hvx,dN,jV]);exact h9),trivial⟩ ⟨rfl,trivial⟩ (fun h=>by cases h) ⟨rfl,rfl⟩
def cG (f:Nat) (ys:List Yr):Rg:=⟨f,(aT ys 0).m.length,fun y e=>pR (aT ys y).m e,fun y e=>(dI (aT ys y).b e).q,fun y=>(aT ys y).l.q⟩
section
variable {y:Yr}{ys:List Yr}{E f t N:Nat}
theorem Ic {l:List Bool}(h:l.length=E):(List.range E).map (pR l)=l:=by
 apply List.ext_getElem?
 intro i
 rw[List.getElem?_map]
 by_cases hi:i<E
 ·rw[List.getElem?_range hi]
  simp[pR,show i<l.length by omega]
 rw[List.getElem?_eq_none (by simp;omega),List.getElem?_eq_none (by omega)]
 rfl
theorem Tl {l:List Fr4}(h:l.length=E) (hq:∀a∈l,a=Fr4.of a.q):((List.range E).map fun e=>(dI l e).q).map Fr4.of=l:=by
 apply List.ext_getElem?
 intro i
 rw[List.getElem?_map,List.getElem?_map]
 by_cases hi:i<E
 ·rw[List.getElem?_range hi]
  have h1:i<l.length:=by omega
  have h2:dI l i=l[i]:=by simp[dI,h1]
  rw[List.getElem?_eq_getElem h1]
  show some (Fr4.of (dI l i).q)=some l[i]
  rw[h2,←hq l[i] (List.getElem_mem h1)]
 rw[List.getElem?_eq_none (by simp;omega),List.getElem?_eq_none (by omega)]
 rfl
theorem LD (hm:y.m.length=E) (hb:y.b.length=E) (hq:∀a∈y.b,a=Fr4.of a.q) (hl:y.l=Fr4.of y.l.q):eP y=[gD ((List.range E).map (pR y.m)),sQ false (((List.range E).map fun e=>(dI y.b e).q).map Fr4.of)]++(Fr4.of y.l.q).tr false:=by
 rw[Ic hm,Tl hb hq,←hl]
 rfl
theorem Tm {a:Fr4}(h:a=Fr4.of a.q) (h3:a.len 3):Sz 4 a.q:=by
 unfold Fr4.len at h3
 rw[h]at h3
 exact⟨Nat.le_trans h3.1 (by omega),Nat.le_trans h3.2 (by omega)⟩
theorem FL (hn:ys.length≤10) (h6:∀y∈ys,y.m.length≤6) (hE:∀y∈ys,y.b.length=(aT ys 0).m.length) (hf:f≤40) (hb:∀y∈ys,∀a∈y.b,a=Fr4.of a.q∧a.len 3) (hl:∀y∈ys,(y.l=Fr4.of y.l.q∧y.l.len 3)∧0≤y.l.q):(cG f ys).Ok ys.length:=by
 refine⟨fun t e ht he=>?_,fun t ht=>?_,fun t ht=>(hl _ (jH ht)).2,hn,?_,hf⟩
 ·have h1:=hE _ (jH ht)
  have h2:e<(aT ys t).b.length:=by rw[h1];exact he
  have h3:=hb _ (jH ht) (dI (aT ys t).b e) (pS h2)
  exact Tm h3.1 h3.2
 ·have h1:=hl _ (jH ht)
  exact Tm h1.1.1 h1.1.2
 cases ys with
 | nil=>exact Nat.zero_le _
 | cons y ys=>exact h6 y (List.mem_cons_self ..)
end
theorem Mr {us:List Ur}{k:Nat}(h:k<us.length):us.take (k+1)=us.take k++[dH us k]:=by rw[List.take_add_one,fT h];rfl
def mZ (us:List Ur) (ent:Int):Rat:=oG us fun u=>decide (u.e=ent)
theorem CD {us:List Ur}{k:Nat}{ent:Int}(h:k<us.length):mZ (us.take (k+1)) ent=if(dH us k).e=ent then mZ (us.take k) ent+(dH us k).n else mZ (us.take k) ent:=by
 unfold mZ
 rw[Mr h,qB]
 simp only[decide_eq_true_eq]
theorem SU {us:List Ur}{ent:Int}{rw9:List Rl}{vs:List Vn}(hz:∀k,Sz 17179869184 (mZ (us.take k) ent)) (hu:∀u∈us,Sz 17179869184 u.n) (hl:us.length≤1073741823):aD false Tryz.prog 15 [] [.agg [.t (dF false rw9),.t (cZ false false vs),.t (cN false false us)],.one (tv (.int .i64 ent))] (aN (qF (.of (mZ us ent)))):=by
 refine cB Tryz.func15 rfl Tryz.ntmps15 rfl aA rfl fun N9 w9 c0 h0=>?_
 have h00:((0:Int):Rat)=(mZ (us.take 0) ent):=by simp[mZ,oG,eG]
 refine sq ?_;refine rl ?_;refine bx 0 ?_;refine al 1 ?_;refine nl ?_;refine sq ?_;refine rl ?_
 refine ca (fF (z:=0) (by omega) (by omega)) lM ⟨a1 rfl,rfl⟩ (qF (.of ((0:Int):Rat))) ?_
 refine al 2 ?_;refine st ?_;refine nl ?_;refine sq ?_;refine sq ?_;refine rl ?_;refine o1 ?_;refine ld ?_;refine o1 ?_;refine o1 ?_;refine nl ?_;refine bl ?_
 refine lp (γ:=Nat) (fun s=>cC [(1,.one (tv (.int .i64 ent))),(4,.one (.pt 0 0)),(5,.one (.pt 1 0)),(10,.one (.t (cN false false us))),(11,.one (tv (.int .i64 ((us.length:Nat):Int)))),(12,.one (tv (.int .i64 ((s:Nat):Int))))]) (fun s=>[(⟨48,0,[tv (.bool false),tv (.slice none 0 0),tv (.bool false),tv (.slice none 0 0)]⟩:Ob),⟨48,0,((Fr4.of (mZ (us.take s) ent)).tr false).map .t⟩].map some) (fun s=>s≤us.length) (fun s=>us.length-s) 0 (Nat.zero_le _) (aP h0 [1,2] _ _ (by decide) ⟨rfl,rfl,rfl,rfl,rfl,rfl,trivial⟩ ⟨oe rfl rfl,aI (congrArg (fun q:Rat=>some (⟨48,0,((Fr4.of q).tr false).map .t⟩:Ob)) h00),rfl⟩) ?_
 rintro k hk;refine sq ?_;refine rl ?_;refine o1 ?_;refine nl ?_;refine sq ?_;refine bN rfl (fun h1=>?_) (fun h1=>?_)
 ·refine sk ?_;refine sq ?_;refine bl ?_;refine sq ?_;refine rl ?_;refine o1 ?_
  refine dZ ((jE false) (dH us (k))) (aS (f:=(jE false)) (z:=7) (o:=0) (fR false) (fT (by omega)) (Nat.le_of_ble_eq_true rfl) rfl) ?_
  refine al 2 ?_;refine st ?_;refine nl ?_;refine sq ?_;refine rl ?_;refine o1 ?_;refine ld ?_;refine o1 ?_;refine o1 ?_;refine nl ?_;refine bN rfl (fun h2=>?_) (fun h2=>?_)
  ·refine rl ?_;refine ld ?_;refine o1 ?_;refine ld ?_
   refine ca (xH (Qn.of (p:=(mZ (us.take k) ent)) ((hz k).mono (M:=68719476736) (by omega))) (Qn.of (p:=(dH us (k)).n) ((hu _ (jG (l:=us) (i:=k) (by omega))).mono (M:=68719476736) (by omega)))) Cc ⟨aE rfl,aE rfl,rfl⟩ (qF (.of ((mZ (us.take k) ent)+(dH us (k)).n))) ?_
   refine st ?_;refine nl ?_;refine rl ?_;refine o1 ?_;refine WL.cast (t:=24) (u':=.int .i64 ((k+1:Nat):Int)) rfl (aC (by omega)) ?_
   refine o1 ?_;refine nl ?_;have hst:((mZ (us.take k) ent)+(dH us (k)).n)=(mZ (us.take (k+1)) ent):=by rw[CD (by omega),if_pos h2]
   exact⟨k+1,by omega,by omega,aP h0 [0,1] _ _ (by decide) ⟨rfl,rfl,rfl,rfl,rfl,rfl,trivial⟩ ⟨oe rfl rfl,aI (congrArg (fun q:Rat=>some (⟨48,0,((Fr4.of q).tr false).map .t⟩:Ob)) hst),rfl⟩⟩
  refine sk ?_;refine rl ?_;refine o1 ?_;refine WL.cast (t:=24) (u':=.int .i64 ((k+1:Nat):Int)) rfl (aC (by omega)) ?_
  refine o1 ?_;refine nl ?_;have hst:(mZ (us.take k) ent)=(mZ (us.take (k+1)) ent):=by rw[CD (by omega),if_neg h2]
  exact⟨k+1,by omega,by omega,aP h0 [0,1] _ _ (by decide) ⟨rfl,rfl,rfl,rfl,rfl,rfl,trivial⟩ ⟨oe rfl rfl,aI (congrArg (fun q:Rat=>some (⟨48,0,((Fr4.of q).tr false).map .t⟩:Ob)) hst),rfl⟩⟩
 refine ex ?_;refine sq ?_;refine rl ?_;refine ld ?_;refine st ?_;refine nl ?_;refine rt ?_
 exact en (.inl rfl) rfl (aZ (.agg (.cons (.id rfl) (.cons (.id rfl) (.cons (.id rfl) (.cons (.id rfl) .nil)))))) (by decide) (fun h=>by cases h) (by rw[List.take_of_length_le (by omega)];rfl)
def fG (fw:Int) (ys:List Yr):Int:=if decide (fw<0)||(decide (40<fw)|| ys.any fun y=> !iM y (aT ys 0).m.length)then 2 else if 40<ys.length then 3 else 0
theorem Yn {fw:Int}{ys:List Yr}(hb:∀y∈ys,(∀a∈y.b,a.ok)∧y.l.ok∧y.b.length≤1073741823) (hl:ys.length≤1073741823) (hno:fG fw ys≠0):aD false Tryz.prog 12 [] [.one (tv (.int .i64 fw)),.one (.t (iX ys))] (aN (.tup [.agg [.t (dF true []),.t (cZ true false []),.t (cN true false [])],.one (tv (.int .i64 (fG fw ys)))])):=by
 refine cB Tryz.func12 rfl Tryz.ntmps12 rfl aA rfl fun N9 w9 c0 h0=>?_
 refine sq ?_;refine rl ?_;refine al 0 ?_;refine o1 ?_;refine nl ?_;refine sq ?_;refine rl ?_;refine al 1 ?_;refine st ?_;refine nl ?_
 refine md (γ:=Unit) (fun _=>cC [(0,.one (tv (.int .i64 fw))),(1,.one (.t (iX ys))),(4,.one (.pt 0 0)),(6,.one (.pt 1 0))]) (fun _=>([⟨39,0,[tv (.slice none 0 0),tv (.slice none 0 0),tv (.slice none 0 0)]⟩,⟨3,0,[tv (.int .i64 (((aT ys 0).m.length:Nat):Int))]⟩]:List Ob).map some) (fun _=>True) ?_ fun _ _=>?_
 ·refine sq ?_;refine rl ?_;(iterate 3 refine o1 ?_);refine nl ?_;refine bN rfl (fun h1=>?_) (fun h1=>?_)
  ·refine rl ?_;(iterate 3 refine o1 ?_);refine dZ ([gD (aT ys (0)).m]) (aS (f:=eP) (z:=6) (o:=0) dU (dA (by omega)) (Nat.le_of_ble_eq_true rfl) rfl) ?_
   refine o1 ?_;refine st ?_;refine nl ?_;exact⟨(),trivial,aP h0 [0,1] _ _ (by decide) ⟨rfl,rfl,rfl,rfl,trivial⟩ ⟨oe rfl rfl,oe rfl rfl,rfl⟩⟩
  refine sk ?_
  exact⟨(),trivial,aP h0 [0,1] _ _ (by decide) ⟨rfl,rfl,rfl,rfl,trivial⟩ ⟨oe rfl rfl,oe rfl (by have h9:ys=[]:=(List.eq_nil_of_length_eq_zero (by omega));subst h9;rfl),rfl⟩⟩
 refine sq ?_;refine bl ?_;refine sq ?_;refine WP.sub (Ea (i:=6) (k:=1) (t:=3) (l:=[.v (.int .i64 (((aT ys 0).m.length:Nat):Int))]) rfl rfl rfl (.one .sl)) ?_;refine rl ?_
 (iterate 3 refine o1 ?_);refine WL.split (t:=25) rfl (fun h2=>?_) (fun h2=>?_)
 ·refine dS ?_;refine dS ?_;refine o1 ?_;refine o1 ?_;(iterate 3 refine dS ?_);refine o1 ?_;refine o1 ?_;refine nl ?_;refine iU rfl ?_;refine sq ?_;refine rl ?_;refine o1 ?_
  refine st ?_;refine o1 ?_;refine nl ?_;refine rt ?_
  exact en (.inl rfl) rfl (uU (.cons (.agg (.cons (.nil (t:=62) (z:=5)) (.cons (.nil (t:=64) (z:=18)) (.cons (.nil (t:=58) (z:=7)) .nil)))) (.cons (cR _) .nil))) (by decide) (fun h=>by cases h) (congrArg (fun z:Int=>FV.tup [.agg [.t (dF true []),.t (cZ true false []),.t (cN true false [])],.one (tv (.int .i64 z))]) (by simp only[fG,decide_eq_true h2,Bool.not_true,Bool.not_false,Bool.or_true,Bool.true_or,Bool.false_or,Bool.or_false,Bool.false_eq_true,if_true,if_false,ite_true,ite_false,Bool.and_true,Bool.true_and,Bool.false_and,Bool.and_false,Bool.not_not] <;> first | rfl | (simp;done) | (simp;omega)))
 (iterate 4 refine o1 ?_);refine WL.split (t:=29) rfl (fun h3=>?_) (fun h3=>?_)
 ·(iterate 3 refine dS ?_);refine o1 ?_;refine o1 ?_;refine nl ?_;refine iU rfl ?_;refine sq ?_;refine rl ?_;refine o1 ?_;refine st ?_;refine o1 ?_;refine nl ?_;refine rt ?_
  exact en (.inl rfl) rfl (uU (.cons (.agg (.cons (.nil (t:=62) (z:=5)) (.cons (.nil (t:=64) (z:=18)) (.cons (.nil (t:=58) (z:=7)) .nil)))) (.cons (cR _) .nil))) (by decide) (fun h=>by cases h) (congrArg (fun z:Int=>FV.tup [.agg [.t (dF true []),.t (cZ true false []),.t (cN true false [])],.one (tv (.int .i64 z))]) (by simp only[fG,decide_eq_false h2,decide_eq_true h3,Bool.not_true,Bool.not_false,Bool.or_true,Bool.true_or,Bool.false_or,Bool.or_false,Bool.false_eq_true,if_true,if_false,ite_true,ite_false,Bool.and_true,Bool.true_and,Bool.false_and,Bool.and_false,Bool.not_not] <;> first | rfl | (simp;done) | (simp;omega)))
 refine o1 ?_;refine o1 ?_
 refine ca (BR (xs:=ys) (dl:=(fun y=> !iM y (aT ys 0).m.length)) (fd:=36) (fst:=[]) (caps:=[.p false 3 [.v (.int .i64 (((aT ys 0).m.length:Nat):Int))]]) LE (fun y hy=>Sp (hb y hy).1 (hb y hy).2.1 (hb y hy).2.2) hl) LF ⟨a1 rfl,a1 rfl,rfl⟩ (.one (tv (.bool (ys.any (fun y=> !iM y (aT ys 0).m.length))))) ?_
 refine o1 ?_;refine o1 ?_;refine nl ?_;refine nY rfl (fun h4=>?_) (fun h4=>?_)
 ·refine sq ?_;refine rl ?_;refine o1 ?_;refine st ?_;refine o1 ?_;refine nl ?_;refine rt ?_
  exact en (.inl rfl) rfl (uU (.cons (.agg (.cons (.nil (t:=62) (z:=5)) (.cons (.nil (t:=64) (z:=18)) (.cons (.nil (t:=58) (z:=7)) .nil)))) (.cons (cR _) .nil))) (by decide) (fun h=>by cases h) (congrArg (fun z:Int=>FV.tup [.agg [.t (dF true []),.t (cZ true false []),.t (cN true false [])],.one (tv (.int .i64 z))]) (by simp only[fG,decide_eq_false h2,decide_eq_false h3,h4,Bool.not_true,Bool.not_false,Bool.or_true,Bool.true_or,Bool.false_or,Bool.or_false,Bool.false_eq_true,if_true,if_false,ite_true,ite_false,Bool.and_true,Bool.true_and,Bool.false_and,Bool.and_false,Bool.not_not] <;> first | rfl | (simp;done) | (simp;omega)))
 refine sq ?_;refine rl ?_;(iterate 4 refine o1 ?_);refine nl ?_;refine bN rfl (fun h5=>?_) (fun h5=>?_)
 ·refine sq ?_;refine rl ?_;refine o1 ?_;refine st ?_;refine o1 ?_;refine nl ?_;refine rt ?_
  exact en (.inl rfl) rfl (uU (.cons (.agg (.cons (.nil (t:=62) (z:=5)) (.cons (.nil (t:=64) (z:=18)) (.cons (.nil (t:=58) (z:=7)) .nil)))) (.cons (cR _) .nil))) (by decide) (fun h=>by cases h) (congrArg (fun z:Int=>FV.tup [.agg [.t (dF true []),.t (cZ true false []),.t (cN true false [])],.one (tv (.int .i64 z))]) (by simp only[fG,decide_eq_false h2,decide_eq_false h3,h4,decide_eq_true h5,Bool.not_true,Bool.not_false,Bool.or_true,Bool.true_or,Bool.false_or,Bool.or_false,Bool.false_eq_true,if_true,if_false,ite_true,ite_false,Bool.and_true,Bool.true_and,Bool.false_and,Bool.and_false,Bool.not_not] <;> first | rfl | (simp;done) | (simp;omega)))
 refine sk ?_
 exact absurd (show fG fw ys=0 by unfold fG;simp only[decide_eq_false h2,decide_eq_false h3,h4,decide_eq_false h5,Bool.not_true,Bool.not_false,Bool.or_true,Bool.true_or,Bool.false_or,Bool.or_false,Bool.false_eq_true,if_true,if_false,ite_true,ite_false,Bool.and_true,Bool.true_and,Bool.false_and,Bool.and_false,Bool.not_not] <;> first | rfl | (simp;done) | (simp;omega)) hno
def Rg.cl (R:Rg) (U:List Ur) (n y e:Nat):Rat:=if n≤y+R.f then R.left U y e else 0
def Rg.clk (R:Rg) (U:List Ur) (n q k y e:Nat):Rat:=if e<q∨(e=q∧(((R.wl U q (R.I n)).take k).any fun x=>decide (x.1=(y:Int)))=true)then R.cl U n y e else 0
def Rg.vnE (R:Rg) (n:Nat):List Vn:=R.vns (R.run n) (R.ex (R.run n) n) (R.cl (R.run n) n) (R.vl n)
section
variable {R:Rg}{U:List Ur}{N n q k y e j:Nat}
theorem Yo:R.clk U n 0 0=fun _ _=>0:=by
 funext y e
 unfold Rg.clk
 rw[if_neg (by simp)]
theorem Yp:R.clk U n (q+1) 0 y e=if e≤q then R.cl U n y e else 0:=by
 unfold Rg.clk
 by_cases h:e≤q
 ·rw[if_pos h,if_pos (.inl (by omega))]
 rw[if_neg h,if_neg (by simp;omega)]
theorem Yq (hI:R.Iv n U) (hk:(R.wl U q (R.I n)).length≤k) (hq:q<R.E) (hy:y<n):R.clk U n q k y e=R.clk U n (q+1) 0 y e:=by
 rw[Yp]
 unfold Rg.clk
 rw[List.take_of_length_le hk]
 by_cases h:e<q
 ·rw[if_pos (.inl h),if_pos (by omega)]
 by_cases h2:e=q
 ·subst h2
  rw[if_pos (Nat.le_refl e)]
  split
  ·rfl
  rename_i h3
  have h4:¬((R.wl U e (R.I n)).any fun x=>decide (x.1=(y:Int)))=true:=fun h5=>h3 (.inr ⟨rfl,h5⟩)
  unfold Rg.cl
  split
  ·rename_i h5
   have h6:=(hI.v y e hy hq).1.1
   by_cases h7:0<R.left U y e
   ·exact absurd (List.any_eq_true.2 ⟨((y:Int),R.left U y e),iG.2 ⟨y,jT.2 ⟨hy,h5⟩,rfl,h7⟩,by simp⟩) h4
   grind
  rfl
 rw[if_neg (by simp;omega),if_neg (by omega)]
theorem Ys (he:e<R.E):R.clk U n R.E 0 y e=R.cl U n y e:=if_pos (.inl he)
theorem QD (hk:k<(R.wl U q (R.I n)).length):∃j:Nat,aJ (R.wl U q (R.I n)) k=((j:Int),R.left U j q)∧0<R.left U j q∧j<n∧n≤j+R.f:=by
 obtain⟨i,hi,hx,h0⟩:=iG.1 (nF hk)
 have:=jT.1 hi
 exact⟨i,hx,h0,this.1,this.2⟩
theorem FM (hk:k<(R.wl U q (R.I n)).length) (hx:aJ (R.wl U q (R.I n)) k=((j:Int),R.left U j q)) (hj:n≤j+R.f):R.clk U n q (k+1) j q=R.left U j q:=by
 unfold Rg.clk Rg.cl
 rw[lD hk,hx,if_pos (.inr ⟨rfl,by simp⟩),if_pos hj]
theorem Yt (hk:k<(R.wl U q (R.I n)).length) (hx:aJ (R.wl U q (R.I n)) k=((j:Int),R.left U j q)) (hne:¬(y=j∧e=q)):R.clk U n q k y e=R.clk U n q (k+1) y e:=by
 unfold Rg.clk
 rw[lD hk,hx,List.any_append]
 by_cases h:e=q
 ·have h2:¬(j:Int)=(y:Int):=by omega
  have h3:List.any [((j:Int),R.left U j q)] (fun x=>decide (x.1=(y:Int)))=false:=by
   rw[List.any_cons,List.any_nil,Bool.or_false]
   exact decide_eq_false h2
  rw[h3,Bool.or_false]
 simp[h]
theorem Id {x c x' c':Nat→Nat→Rat}{L:List (Nat×Nat)}(h:∀p∈L,x p.1 p.2=x' p.1 p.2∧c p.1 p.2=c' p.1 p.2):R.vns U x c L=R.vns U x' c' L:=List.map_congr_left fun p hp=>by
 unfold Rg.vn
 rw[(h p hp).1,(h p hp).2]
end
theorem Tn {a:Fr4}(ha:a.ok) (h:Mc a=true):a=Fr4.of a.q:=(Qn.right (⟨ha,rfl⟩:Qn a a.q) h).symm
theorem Yu {fw:Int}{ys:List Yr}(hb:∀y∈ys,(∀a∈y.b,a.ok)∧y.l.ok) (h:fG fw ys=0):0≤fw∧fw≤40∧ys.length≤40∧∀y∈ys,y.m.length=(aT ys 0).m.length∧y.b.length=(aT ys 0).m.length∧(∀a∈y.b,a=Fr4.of a.q)∧y.l=Fr4.of y.l.q∧0≤y.l.q:=by
 unfold fG at h
 split at h
 ·cases h
 rename_i h1
 split at h
 ·cases h
 rename_i h2
 simp only[Bool.or_eq_true,decide_eq_true_eq,not_or]at h1
 refine⟨by omega,by omega,by omega,fun y hy=>?_⟩
 have h3:=h1.2.2
 rw[Bool.not_eq_true,List.any_eq_false]at h3
 have h4:=h3 y hy
 simp only[Bool.not_eq_true,Bool.not_eq_false']at h4
 unfold iM at h4
 simp only[Bool.and_eq_true,decide_eq_true_eq,Bool.not_eq_true']at h4
 obtain⟨a1,a2,a3,a4,a5⟩:=h4
 rw[List.any_eq_false]at a3
 exact⟨by omega,by omega,fun a ha=>Tn ((hb y hy).1 a ha) (by simpa using a3 a ha),Tn (hb y hy).2 a4,by
  rcases Rat.le_total (a:=0) (b:=y.l.q)with h5 | h5
  ·exact h5
  rcases Rat.le_iff_lt_or_eq.1 h5 with h6 | h6
  ·have:=(tO y.l.q).2 h6
   omega
  rw[h6];exact Rat.le_refl⟩
def nI (k:Nat):List (List (Int×Rat)×Int×Bool):=List.replicate k ([],0,false)
theorem tP {k:Nat}:(nI k).length=k:=List.length_replicate ..
theorem sD {k:Nat}:(((nI k).map dP).map AV.t).length=k:=by rw[List.length_map,List.length_map,tP]
theorem LG {k:Nat}{a:AV}:(((nI k).map dP).map AV.t++[a])[k]? =some a:=by
 rw[List.getElem?_append_right (by rw[sD];exact Nat.le_refl k),sD,Nat.sub_self]
 rfl
theorem FN {k:Nat}{a:AV}:(((nI k).map dP).map AV.t++[a]).set k (.t (dP ([],0,false)))=((nI (k+1)).map dP).map .t:=by
 rw[List.set_append_right _ _ (by rw[sD];exact Nat.le_refl k),sD,Nat.sub_self]
 unfold nI
 rw[List.replicate_succ']
 simp
theorem Yv {R:Rg}:dN (R.own (R.run 0) (R.I 0) 0)=.s true 96 1 R.E ((nI R.E).map dP):=by
 have h:R.own (R.run 0) (R.I 0) 0=nI R.E:=by
  have h1:R.own (R.run 0) (R.I 0) 0=(List.range R.E).map fun _=>(([]:List (Int×Rat)),(0:Int),false):=by
   have h0:R.I 0=[]:=by unfold Rg.I;rw[Nat.zero_sub];rfl
   rw[h0]
   rfl
  rw[h1,List.map_const',List.length_range]
  rfl
 rw[h,dN,tP]
theorem FO {R:Rg}{ys:List Yr}(hb:∀y∈ys,(∀a∈y.b,a.ok)∧y.l.ok∧y.b.length≤1073741823) (hno:fG ((R.f:Nat):Int) ys=0) (hE9:(aT ys 0).m.length=R.E) (hOk:R.Ok ys.length) (hyq:∀t,t<ys.length→eP (aT ys t)=R.yrq t):aD false Tryz.prog 12 [] [.one (tv (.int .i64 ((R.f:Nat):Int))),.one (.t (iX ys))] (aN (.tup [.agg [.t (dF true (R.rls (R.run ys.length) ys.length)),.t (cZ true false (R.vnE ys.length)),.t (cN true false (R.run ys.length))],.one (tv (.int .i64 0))])):=by
 refine cB Tryz.func12 rfl Tryz.ntmps12 rfl aA rfl fun N9 w9 c0 h0=>?_
 have hl:ys.length≤1073741823:=by have:=hOk.n;omega
 have hE6:=hOk.e;have hN:=hOk.n;have hF:=hOk.f
 refine sq ?_;refine rl ?_;refine al 0 ?_;refine o1 ?_;refine nl ?_;refine sq ?_;refine rl ?_;refine al 1 ?_;refine st ?_;refine nl ?_
 refine md (γ:=Unit) (fun _=>cC [(0,.one (tv (.int .i64 ((R.f:Nat):Int)))),(1,.one (.t (iX ys))),(4,.one (.pt 0 0)),(6,.one (.pt 1 0))]) (fun _=>([⟨39,0,[tv (.slice none 0 0),tv (.slice none 0 0),tv (.slice none 0 0)]⟩,⟨3,0,[tv (.int .i64 (((aT ys 0).m.length:Nat):Int))]⟩]:List Ob).map some) (fun _=>True) ?_ fun _ _=>?_
 ·refine sq ?_;refine rl ?_;(iterate 3 refine o1 ?_);refine nl ?_;refine bN rfl (fun h1=>?_) (fun h1=>?_)
  ·refine rl ?_;(iterate 3 refine o1 ?_);refine dZ ([gD (aT ys (0)).m]) (aS (f:=eP) (z:=6) (o:=0) dU (dA (by omega)) (Nat.le_of_ble_eq_true rfl) rfl) ?_
   refine o1 ?_;refine st ?_;refine nl ?_;exact⟨(),trivial,aP h0 [0,1] _ _ (by decide) ⟨rfl,rfl,rfl,rfl,trivial⟩ ⟨oe rfl rfl,oe rfl rfl,rfl⟩⟩
  refine sk ?_
  exact⟨(),trivial,aP h0 [0,1] _ _ (by decide) ⟨rfl,rfl,rfl,rfl,trivial⟩ ⟨oe rfl rfl,oe rfl (by have h9:ys=[]:=(List.eq_nil_of_length_eq_zero (by omega));subst h9;rfl),rfl⟩⟩
 refine sq ?_;refine bl ?_;refine sq ?_;refine WP.sub (Ea (i:=6) (k:=1) (t:=3) (l:=[.v (.int .i64 (((aT ys 0).m.length:Nat):Int))]) rfl rfl rfl (.one .sl)) ?_;refine rl ?_
 (iterate 3 refine o1 ?_);refine WL.split (t:=25) rfl (fun h2=>?_) (fun h2=>?_)
 ·refine dS ?_;refine dS ?_;refine o1 ?_;refine o1 ?_;(iterate 3 refine dS ?_);refine o1 ?_;refine o1 ?_;refine nl ?_;refine iU rfl ?_;refine sq ?_;refine rl ?_;refine o1 ?_
  refine st ?_;refine o1 ?_;refine nl ?_;refine rt ?_
  exact absurd (hno.symm.trans (show fG ((R.f:Nat):Int) ys=2 by simp only[fG,decide_eq_true h2,Bool.not_true,Bool.not_false,Bool.or_true,Bool.true_or,Bool.false_or,Bool.or_false,Bool.false_eq_true,if_true,if_false,ite_true,ite_false,Bool.and_true,Bool.true_and,Bool.false_and,Bool.and_false,Bool.not_not] <;> first | rfl | (simp;done) | (simp;omega))) (by decide)
 (iterate 4 refine o1 ?_);refine WL.split (t:=29) rfl (fun h3=>?_) (fun h3=>?_)
 ·(iterate 3 refine dS ?_);refine o1 ?_;refine o1 ?_;refine nl ?_;refine iU rfl ?_;refine sq ?_;refine rl ?_;refine o1 ?_;refine st ?_;refine o1 ?_;refine nl ?_;refine rt ?_
  exact absurd (hno.symm.trans (show fG ((R.f:Nat):Int) ys=2 by simp only[fG,decide_eq_false h2,decide_eq_true h3,Bool.not_true,Bool.not_false,Bool.or_true,Bool.true_or,Bool.false_or,Bool.or_false,Bool.false_eq_true,if_true,if_false,ite_true,ite_false,Bool.and_true,Bool.true_and,Bool.false_and,Bool.and_false,Bool.not_not] <;> first | rfl | (simp;done) | (simp;omega))) (by decide)
 refine o1 ?_;refine o1 ?_
 refine ca (BR (xs:=ys) (dl:=(fun y=> !iM y (aT ys 0).m.length)) (fd:=36) (fst:=[]) (caps:=[.p false 3 [.v (.int .i64 (((aT ys 0).m.length:Nat):Int))]]) LE (fun y hy=>Sp (hb y hy).1 (hb y hy).2.1 (hb y hy).2.2) hl) LF ⟨a1 rfl,a1 rfl,rfl⟩ (.one (tv (.bool (ys.any (fun y=> !iM y (aT ys 0).m.length))))) ?_
 refine o1 ?_;refine o1 ?_;refine nl ?_;refine nY rfl (fun h4=>?_) (fun h4=>?_)
 ·refine sq ?_;refine rl ?_;refine o1 ?_;refine st ?_;refine o1 ?_;refine nl ?_;refine rt ?_
  exact absurd (hno.symm.trans (show fG ((R.f:Nat):Int) ys=2 by simp only[fG,decide_eq_false h2,decide_eq_false h3,h4,Bool.not_true,Bool.not_false,Bool.or_true,Bool.true_or,Bool.false_or,Bool.or_false,Bool.false_eq_true,if_true,if_false,ite_true,ite_false,Bool.and_true,Bool.true_and,Bool.false_and,Bool.and_false,Bool.not_not] <;> first | rfl | (simp;done) | (simp;omega))) (by decide)
 refine sq ?_;refine rl ?_;(iterate 4 refine o1 ?_);refine nl ?_;refine bN rfl (fun h5=>?_) (fun h5=>?_)
 ·refine sq ?_;refine rl ?_;refine o1 ?_;refine st ?_;refine o1 ?_;refine nl ?_;refine rt ?_
  exact absurd (hno.symm.trans (show fG ((R.f:Nat):Int) ys=3 by simp only[fG,decide_eq_false h2,decide_eq_false h3,h4,decide_eq_true h5,Bool.not_true,Bool.not_false,Bool.or_true,Bool.true_or,Bool.false_or,Bool.or_false,Bool.false_eq_true,if_true,if_false,ite_true,ite_false,Bool.and_true,Bool.true_and,Bool.false_and,Bool.and_false,Bool.not_not] <;> first | rfl | (simp;done) | (simp;omega))) (by decide)
 refine sk ?_;refine sq ?_;refine rl ?_;refine o1 ?_;refine bx 2 ?_;refine o1 ?_;refine nl ?_;refine sq ?_;refine sq ?_;refine WP.sub (Gy (i:=6) rfl rfl) ?_
 refine WP.sub ((Mg (j:=2) (key:=3) (e:=62) (z:=5) rfl rfl rfl (.sl (.id (.id (.id .nil))))).trans (iZ (j:=2) (k:=3) (p:=0) (e:=62) (z:=5) (n:=0) (trs:=[]) rfl rfl rfl rfl rfl rfl rfl rfl)) ?_
 refine WP.sub ((Mg (j:=2) (key:=4) (e:=64) (z:=18) rfl rfl rfl (.id (.sl (.id (.id .nil))))).trans (iZ (j:=2) (k:=4) (p:=1) (e:=64) (z:=18) (n:=0) (trs:=[]) rfl rfl rfl rfl rfl rfl rfl rfl)) ?_
 refine WP.sub ((Mg (j:=2) (key:=5) (e:=58) (z:=7) rfl rfl rfl (.id (.id (.sl (.id .nil))))).trans (iZ (j:=2) (k:=5) (p:=2) (e:=58) (z:=7) (n:=0) (trs:=[]) rfl rfl rfl rfl rfl rfl rfl rfl)) ?_
 refine WP.sub (Mg (j:=2) (key:=6) (e:=96) (z:=1) rfl rfl rfl (.id (.id (.id (.sl .nil))))) ?_;refine rl ?_
 refine dZ ([.v (.int .i64 (((aT ys 0).m.length:Nat):Int))]) rfl ?_;refine WL.cast (t:=42) (u':=.int .i64 ((R.E:Nat):Int)) rfl (aC (by rw[hE9])) ?_
 refine o1 ?_;refine nl ?_;refine bl ?_
 refine lp (γ:=Nat) (fun s=>cC [(0,.one (tv (.int .i64 ((R.f:Nat):Int)))),(1,.one (.t (iX ys))),(4,.one (.pt 0 0)),(7,.one (.pt 1 0)),(42,.one (tv (.int .i64 ((R.E:Nat):Int)))),(43,.one (tv (.int .i64 ((s:Nat):Int))))]) (fun s=>[(⟨39,0,[tv (.slice none 0 0),tv (.slice none 0 0),tv (.slice none 0 0)]⟩:Ob),⟨95,0,[.t (dF true (R.rls (R.run 0) 0)),.t (cZ true false (R.vns (R.run 0) (R.ex (R.run 0) 0) (fun _ _=>(0:Rat)) (R.vl 0))),.t (cN true false (R.run 0)),.sl 2 0 s]⟩,⟨96,1,((nI s).map dP).map .t⟩].map some) (fun s=>s≤R.E) (fun s=>R.E-s) 0 (Nat.zero_le _) (aP h0 [0,2,6] _ _ (by decide) ⟨rfl,rfl,rfl,rfl,rfl,rfl,trivial⟩ ⟨oe rfl rfl,oe rfl rfl,aI rfl,rfl⟩) ?_
 rintro k hk;refine sq ?_;refine rl ?_;refine o1 ?_;refine nl ?_;refine sq ?_;refine bN rfl (fun h6=>?_) (fun h6=>?_)
 ·refine sk ?_;refine sq ?_;refine bl ?_;refine rd [0,1] (fun i=>[8,9,10].contains i) mixed ?_
  refine dv 0 ?_;refine dv 1 ?_;refine dv 2 ?_;refine dv 3 ?_;refine aL 4 ?_;refine lX 3 5 rfl (PM) SV rfl ?_
  refine kT (key:=4) 6 (by kernel_rfl) rfl rfl aA rfl ⟨rfl,rfl,trivial⟩ ?_
  refine oE (j:=5) (n:=k) (l:=((nI k).map dP).map .t) 7 rfl aA rfl rfl rfl (.sl rfl (by rw[sD,Nat.mul_one])) (.sl rfl rfl rfl) rfl rfl (by omega) (by omega) rfl ⟨rfl,rfl,trivial⟩ rfl (by kernel_rfl) rfl ?_
  refine eZ 8 (by kernel_rfl) rfl rfl aA rfl (by trivial) ?_ (fun h=>by first | rfl | cases h)
  refine eZ 9 (by kernel_rfl) rfl rfl aA rfl (by trivial) ?_ (fun h=>by first | rfl | cases h)
  refine dst 10 ?_;refine aQ ?_
  refine WP.sub (Cf (j:=5) (k:=3) (p:=k) (e:=137) (trs:=[sR 102 [],.v (.int .i64 0),.v (.bool false)]) (l':=((nI (k+1)).map dP).map .t) rfl rfl rfl LG FN) ?_
  refine rl ?_;refine o1 ?_;refine WL.cast (t:=55) (u':=.int .i64 ((k+1:Nat):Int)) rfl (aC (by omega)) ?_
  refine o1 ?_;refine nl ?_;exact⟨k+1,by omega,by omega,aP h0 [0,1,5] _ _ (by decide) ⟨rfl,rfl,rfl,rfl,rfl,rfl,trivial⟩ ⟨oe rfl rfl,oe rfl rfl,aI rfl,rfl⟩⟩
 refine ex ?_;refine sq ?_;refine sq ?_;have hkE:k=R.E:=by omega
 subst hkE
 refine WP.sub (iZ (j:=1) (k:=2) (p:=3) (e:=96) (z:=1) (n:=R.E) (trs:=(nI R.E).map dP) rfl rfl rfl rfl rfl (cD _ _ (by rw[List.length_map,tP,Nat.mul_one])) (by rw[List.length_map,tP,Nat.mul_one]) rfl) ?_
 refine rl ?_;(iterate 3 refine o1 ?_);refine nl ?_;refine bl ?_
 refine lp (γ:=Nat) (fun s=>cC [(0,.one (tv (.int .i64 ((R.f:Nat):Int)))),(4,.one (.pt 0 0)),(7,.one (.pt 1 0)),(56,.one (.t (iX ys))),(57,.one (tv (.int .i64 ((ys.length:Nat):Int)))),(58,.one (tv (.int .i64 ((s:Nat):Int))))]) (fun s=>[(⟨39,0,[tv (.slice none 0 0),tv (.slice none 0 0),tv (.slice none 0 0)]⟩:Ob),⟨95,0,[.t (dF true (R.rls (R.run s) s)),.t (cZ true false (R.vns (R.run s) (R.ex (R.run s) s) (fun _ _=>(0:Rat)) (R.vl s))),.t (cN true false (R.run s)),.t (dN (R.own (R.run s) (R.I s) s))]⟩].map some) (fun s=>s≤ys.length) (fun s=>ys.length-s) 0 (Nat.zero_le _) (aP h0 [0,1] _ _ (by decide) ⟨rfl,rfl,rfl,rfl,rfl,rfl,trivial⟩ ⟨oe rfl rfl,oe rfl (by have h9:(some ⟨95,0,[.t (dF true (R.rls (R.run 0) 0)),.t (cZ true false (R.vns (R.run 0) (R.ex (R.run 0) 0) (fun _ _=>(0:Rat)) (R.vl 0))),.t (cN true false (R.run 0)),.t (.s true 96 1 R.E ((nI R.E).map dP))]⟩:Option Ob)=some ⟨95,0,[.t (dF true (R.rls (R.run 0) 0)),.t (cZ true false (R.vns (R.run 0) (R.ex (R.run 0) 0) (fun _ _=>(0:Rat)) (R.vl 0))),.t (cN true false (R.run 0)),.t (dN (R.own (R.run 0) (R.I 0) 0))]⟩:=(by rw[Yv]);exact h9),rfl⟩) ?_
 rintro t ht;refine sq ?_;refine rl ?_;refine o1 ?_;refine nl ?_;refine sq ?_;refine bN rfl (fun h7=>?_) (fun h7=>?_)
 ·refine sk ?_;refine sq ?_;refine bl ?_;refine sq ?_;refine rl ?_;refine o1 ?_;refine o1 ?_
  refine dZ (R.yrq t) ((by rw[←hyq t (by omega)];exact(aS (f:=eP) (z:=6) (o:=0) dU (dA (by omega)) (Nat.le_of_ble_eq_true rfl) rfl))) ?_
  refine al 2 ?_;refine o1 ?_;refine st ?_;refine nl ?_;refine rl ?_;(iterate 3 refine o1 ?_);refine ld ?_
  refine cl 3 [1] (LA (t:=t) hOk (by omega)) SW ⟨oe rfl rfl,rfl⟩ ⟨rfl,rfl,rfl,rfl,rfl⟩ (ok:=[some ⟨95,0,[.t (dF true (R.rls (R.run (t+1)) (t+1))),.t (cZ true false (R.vns (R.run (t+1)) (R.ex (R.run (t+1)) (t+1)) (fun _ _=>(0:Rat)) (R.vl (t+1)))),.t (cN true false (R.run (t+1))),.t (dN (R.own (R.run (t+1)) (R.I (t+1)) (t+1)))]⟩]) ⟨oe rfl rfl,rfl⟩ ?_
  refine nl ?_;refine rl ?_;refine o1 ?_;refine WL.cast (t:=68) (u':=.int .i64 ((t+1:Nat):Int)) rfl (aC (by omega)) ?_
  refine o1 ?_;refine nl ?_;exact⟨t+1,by omega,by omega,aP h0 [0,1] _ _ (by decide) ⟨rfl,rfl,rfl,rfl,rfl,rfl,trivial⟩ ⟨oe rfl rfl,oe rfl rfl,rfl⟩⟩
 refine ex ?_;refine sq ?_;refine sq ?_;have htt:t=ys.length:=by omega
 subst htt;have hIv:=hOk.run (Nat.le_refl ys.length)
 have hvl9:=qA (R:=R) hE6 ys.length
 have hck0:(R.vns (R.run ys.length) (R.ex (R.run ys.length) ys.length) (fun _ _=>(0:Rat)) (R.vl ys.length))=(R.vns (R.run ys.length) (R.ex (R.run ys.length) ys.length) (R.clk (R.run ys.length) ys.length 0 0) (R.vl ys.length)):=by rw[Yo]
 refine WP.sub (oB (j:=1) (key:=2) (p:=1) (e:=64) (z:=18) (n:=(R.vns (R.run ys.length) (R.ex (R.run ys.length) ys.length) (fun _ _=>(0:Rat)) (R.vl ys.length)).length) (trs:=(R.vns (R.run ys.length) (R.ex (R.run ys.length) ys.length) (fun _ _=>(0:Rat)) (R.vl ys.length)).flatMap (eA false)) rfl rfl rfl rfl rfl) ?_
 refine WP.sub (oB (j:=1) (key:=3) (p:=3) (e:=96) (z:=1) (n:=(R.own (R.run ys.length) (R.I ys.length) ys.length).length) (trs:=(R.own (R.run ys.length) (R.I ys.length) ys.length).map dP) rfl rfl rfl rfl rfl) ?_
 refine rl ?_;(iterate 3 refine o1 ?_);refine ld ?_;refine o1 ?_;refine o1 ?_;refine nl ?_;refine bl ?_
 refine lp (γ:=Nat) (fun s=>cC [(4,.one (.pt 0 0)),(7,.one (.pt 1 0)),(72,.one (.sl 3 0 (R.E))),(73,.one (tv (.int .i64 ((R.E:Nat):Int)))),(74,.one (tv (.int .i64 ((s:Nat):Int))))]) (fun s=>[(⟨39,0,[tv (.slice none 0 0),tv (.slice none 0 0),tv (.slice none 0 0)]⟩:Ob),⟨95,0,[.t (dF true (R.rls (R.run ys.length) ys.length)),.sl 2 0 (R.vl ys.length).length,.t (cN true false (R.run ys.length)),.sl 3 0 R.E]⟩,⟨64,18,((R.vns (R.run ys.length) (R.ex (R.run ys.length) ys.length) (R.clk (R.run ys.length) ys.length s 0) (R.vl ys.length)).flatMap (eA false)).map .t⟩,⟨96,1,((R.own (R.run ys.length) (R.I ys.length) ys.length).map dP).map .t⟩].map some) (fun s=>s≤R.E) (fun s=>R.E-s) 0 (Nat.zero_le _) (aP h0 [0,1,2,3] _ _ (by decide) ⟨rfl,rfl,(by rw[jV];rfl),Gw (by rw[jV]),rfl,trivial⟩ ⟨oe rfl rfl,oe rfl (by have h9:(some ⟨95,0,[.t (dF true (R.rls (R.run ys.length) ys.length)),.sl 2 0 (R.vns (R.run ys.length) (R.ex (R.run ys.length) ys.length) (fun _ _=>(0:Rat)) (R.vl ys.length)).length,.t (cN true false (R.run ys.length)),.sl 3 0 (R.own (R.run ys.length) (R.I ys.length) ys.length).length]⟩:Option Ob)=some ⟨95,0,[.t (dF true (R.rls (R.run ys.length) ys.length)),.sl 2 0 (R.vl ys.length).length,.t (cN true false (R.run ys.length)),.sl 3 0 R.E]⟩:=(by rw[eQ,jV]);exact h9),aI (congrArg (fun l:List Vn=>some (⟨64,18,(l.flatMap (eA false)).map .t⟩:Ob)) hck0),aI rfl,rfl⟩) ?_
 rintro q hq;refine sq ?_;refine rl ?_;refine o1 ?_;refine nl ?_;refine sq ?_;refine bN rfl (fun h8=>?_) (fun h8=>?_)
 ·refine sk ?_;refine sq ?_;refine bl ?_;refine sq ?_;have hq9:q<R.E:=by omega
  have hwl:=sB (R:=R) (U:=(R.run ys.length)) (e:=q) (I:=R.I ys.length)
  have hIl:=sA (R:=R) (k:=ys.length)
  have hle9:cW (R.own (R.run ys.length) (R.I ys.length) ys.length) q=((R.wl (R.run ys.length) q (R.I ys.length)),(R.lp q ys.length).1,(R.lp q ys.length).2):=Ch hq9
  have hol9:(R.own (R.run ys.length) (R.I ys.length) ys.length).length=R.E:=jV
  have hzz:∀x∈(R.wl (R.run ys.length) q (R.I ys.length)),Sz 68719476736 x.2:=fun x hx=>by obtain⟨i,hi,rfl,_⟩:=iG.1 hx;exact(hIv.sz_left hOk (jT.1 hi).1 hq9).mono (by omega)
  refine WP.sub (Hp (j:=3) (key:=4) (p:=q) (e:=137) (trs:=[sR 102 (R.wl (R.run ys.length) q (R.I ys.length)),.v (.int .i64 (R.lp q ys.length).1),.v (.bool (R.lp q ys.length).2)]) rfl rfl (by rw[xG (by omega),hle9];rfl) rfl) ?_
  refine rl ?_;refine o1 ?_;refine o1 ?_
  refine Ly (l:=(((R.own (R.run ys.length) (R.I ys.length) ys.length).map dP).map AV.t).set q (.pt 4 0)) (v:=.pt 4 0) (Ak (by rw[kE];omega)) ?_
  refine o1 ?_;refine o1 ?_;refine nl ?_;refine sq ?_;refine rl ?_;refine o1 ?_
  refine jD 5 (Sv (vs:=(R.wl (R.run ys.length) q (R.I ys.length))) (rest:=[.v (.int .i64 (R.lp q ys.length).1),.v (.bool (R.lp q ys.length).2)]) hzz (by omega)) KQ ⟨uV rfl (.pe (trs:=[sR 102 (R.wl (R.run ys.length) q (R.I ys.length)),.v (.int .i64 (R.lp q ys.length).1),.v (.bool (R.lp q ys.length).2)]) rfl rfl rfl (by simp only[rdTL,rY,sR,sV,xF])),rfl⟩ ?_
  refine o1 ?_;refine o1 ?_;refine nl ?_;refine bl ?_
  refine WP.sub (KO (i:=80) (k:=5) (n:=(R.wl (R.run ys.length) q (R.I ys.length)).length) 102 rfl rfl rfl (bK true _) (xF true _) (.one .sl)) ?_
  refine WP.sub (Cf (j:=3) (k:=4) (p:=q) (e:=137) (trs:=[sR 102 (R.wl (R.run ys.length) q (R.I ys.length)),.v (.int .i64 (R.lp q ys.length).1),.v (.bool (R.lp q ys.length).2)]) (l':=((R.own (R.run ys.length) (R.I ys.length) ys.length).map dP).map .t) rfl rfl rfl (List.getElem?_set_self (by rw[kE];omega)) (Mm (x:=((R.wl (R.run ys.length) q (R.I ys.length)),(R.lp q ys.length).1,(R.lp q ys.length).2)) (by omega) hle9)) ?_
  refine lp (γ:=Nat) (fun s=>cC [(4,.one (.pt 0 0)),(7,.one (.pt 1 0)),(10,.one (tv (.int .i64 ((q:Nat):Int)))),(72,.one (.sl 3 0 (R.E))),(73,.one (tv (.int .i64 ((R.E:Nat):Int)))),(74,.one (tv (.int .i64 ((q:Nat):Int)))),(80,.one (.t (sV 102 false (R.wl (R.run ys.length) q (R.I ys.length))))),(81,.one (tv (.int .i64 (((R.wl (R.run ys.length) q (R.I ys.length)).length:Nat):Int)))),(82,.one (tv (.int .i64 ((s:Nat):Int))))]) (fun s=>[(⟨39,0,[tv (.slice none 0 0),tv (.slice none 0 0),tv (.slice none 0 0)]⟩:Ob),⟨95,0,[.t (dF true (R.rls (R.run ys.length) ys.length)),.sl 2 0 (R.vl ys.length).length,.t (cN true false (R.run ys.length)),.sl 3 0 R.E]⟩,⟨64,18,((R.vns (R.run ys.length) (R.ex (R.run ys.length) ys.length) (R.clk (R.run ys.length) ys.length q s) (R.vl ys.length)).flatMap (eA false)).map .t⟩,⟨96,1,((R.own (R.run ys.length) (R.I ys.length) ys.length).map dP).map .t⟩].map some) (fun s=>s≤(R.wl (R.run ys.length) q (R.I ys.length)).length) (fun s=>(R.wl (R.run ys.length) q (R.I ys.length)).length-s) 0 (Nat.zero_le _) (aP h0 [0,1,2,3] _ _ (by decide) ⟨rfl,rfl,rfl,rfl,rfl,rfl,rfl,rfl,rfl,trivial⟩ ⟨oe rfl rfl,oe rfl rfl,aI rfl,aI rfl,rfl⟩) ?_
  rintro k hk;refine sq ?_;refine rl ?_;refine o1 ?_;refine nl ?_;refine sq ?_;refine bN rfl (fun h9=>?_) (fun h9=>?_)
  ·refine sk ?_;refine sq ?_;refine bl ?_;refine sq ?_;refine rl ?_;refine o1 ?_
   refine dZ (cF false (aJ (R.wl (R.run ys.length) q (R.I ys.length)) (k))) (rW false (by omega)) ?_
   refine al 4 ?_;refine st ?_;refine nl ?_;obtain⟨j,hx,hj0,hjn,hjf⟩:=QD (R:=R) (U:=(R.run ys.length)) (q:=q) (n:=ys.length) (k:=k) (by omega)
   have hx1:(aJ (R.wl (R.run ys.length) q (R.I ys.length)) (k)).1=((j:Nat):Int):=by rw[hx]
   have hx2:(aJ (R.wl (R.run ys.length) q (R.I ys.length)) (k)).2=R.left (R.run ys.length) j q:=by rw[hx]
   have hjv:R.isV j q=true:=by
    have h6:=(hIv.v j q hjn hq9).1.2
    cases h8:R.isV j q
    ·rw[Al h8]at h6
     grind
    rfl
   have hjm:(j,q)∈(R.vl ys.length):=gQ.2 ⟨hjn,hq9,hjv⟩
   have hfi:(cO (bZ (aJ (R.wl (R.run ys.length) q (R.I ys.length)) (k)).1 ((q:Nat):Int)) (R.vns (R.run ys.length) (R.ex (R.run ys.length) ys.length) (R.clk (R.run ys.length) ys.length q k) (R.vl ys.length)))<(R.vns (R.run ys.length) (R.ex (R.run ys.length) ys.length) (R.clk (R.run ys.length) ys.length q k) (R.vl ys.length)).length:=by rw[hx1,eQ];exact(vL hjm).1
   have hge:(R.vns (R.run ys.length) (R.ex (R.run ys.length) ys.length) (R.clk (R.run ys.length) ys.length q k) (R.vl ys.length))[(cO (bZ (aJ (R.wl (R.run ys.length) q (R.I ys.length)) (k)).1 ((q:Nat):Int)) (R.vns (R.run ys.length) (R.ex (R.run ys.length) ys.length) (R.clk (R.run ys.length) ys.length q k) (R.vl ys.length)))]? =some (R.vn (R.run ys.length) (R.ex (R.run ys.length) ys.length) (R.clk (R.run ys.length) ys.length q k) (j,q)):=by rw[hx1];exact wX hjm
   have hset:(R.vns (R.run ys.length) (R.ex (R.run ys.length) ys.length) (R.clk (R.run ys.length) ys.length q k) (R.vl ys.length)).set (cO (bZ (aJ (R.wl (R.run ys.length) q (R.I ys.length)) (k)).1 ((q:Nat):Int)) (R.vns (R.run ys.length) (R.ex (R.run ys.length) ys.length) (R.clk (R.run ys.length) ys.length q k) (R.vl ys.length))) (⟨(R.vn (R.run ys.length) (R.ex (R.run ys.length) ys.length) (R.clk (R.run ys.length) ys.length q k) (j,q)).y,(R.vn (R.run ys.length) (R.ex (R.run ys.length) ys.length) (R.clk (R.run ys.length) ys.length q k) (j,q)).e,(R.vn (R.run ys.length) (R.ex (R.run ys.length) ys.length) (R.clk (R.run ys.length) ys.length q k) (j,q)).l,(R.vn (R.run ys.length) (R.ex (R.run ys.length) ys.length) (R.clk (R.run ys.length) ys.length q k) (j,q)).u,(R.vn (R.run ys.length) (R.ex (R.run ys.length) ys.length) (R.clk (R.run ys.length) ys.length q k) (j,q)).x,(aJ (R.wl (R.run ys.length) q (R.I ys.length)) (k)).2⟩:Vn)=(R.vns (R.run ys.length) (R.ex (R.run ys.length) ys.length) (R.clk (R.run ys.length) ys.length q (k+1)) (R.vl ys.length)):=by
    rw[hx1,hx2]
    have h9:=Bz (R:=R) (U:=(R.run ys.length)) (U':=(R.run ys.length)) (x:=(R.ex (R.run ys.length) ys.length)) (x':=(R.ex (R.run ys.length) ys.length)) (c:=(R.clk (R.run ys.length) ys.length q k)) (c':=(R.clk (R.run ys.length) ys.length q (k+1))) (pY ys.length) hjm fun p _ hp=>by
     unfold Rg.vn;rw[Yt (by omega) hx fun h=>hp (Prod.ext h.1 h.2)]
    rw[←h9];unfold Rg.vn;rw[FM (by omega) hx hjf]
   refine rd [0,4] (fun i=>[9].contains i) mixed ?_
   refine dv 0 ?_;refine dv 1 ?_;refine aL 2 ?_;refine dv 3 ?_;refine dv 5 ?_;refine aL 6 ?_
   have hvi:=Aj (vs:=(R.vns (R.run ys.length) (R.ex (R.run ys.length) ys.length) (R.clk (R.run ys.length) ys.length q k) (R.vl ys.length))) (y:=(aJ (R.wl (R.run ys.length) q (R.I ys.length)) (k)).1) (e:=((q:Nat):Int)) (ra:=(dF true (R.rls (R.run ys.length) ys.length))) (rb:=(cN true false (R.run ys.length))) (rc:=.v (.bool false)) (m:=R.E) (l3:=(R.own (R.run ys.length) (R.I ys.length) ys.length).map dP) hfi (by rw[eQ];omega)
   rw[show(R.vns (R.run ys.length) (R.ex (R.run ys.length) ys.length) (R.clk (R.run ys.length) ys.length q k) (R.vl ys.length)).length=(R.vl ys.length).length from eQ]at hvi
   refine JL 4 [1,2,3] rfl hvi Xu ⟨oe rfl rfl,aI rfl,aI rfl,rfl⟩ ⟨rfl,rfl,rfl,rfl⟩ (ok:=[some ⟨95,0,[.t (dF true (R.rls (R.run ys.length) ys.length)),.sl 2 0 (R.vl ys.length).length,.t (cN true false (R.run ys.length)),.sl 3 0 R.E]⟩,some ⟨64,18,((R.vns (R.run ys.length) (R.ex (R.run ys.length) ys.length) (R.clk (R.run ys.length) ys.length q k) (R.vl ys.length)).flatMap (eA false)).map .t⟩,some ⟨96,1,((R.own (R.run ys.length) (R.I ys.length) ys.length).map dP).map .t⟩]) ⟨oe rfl rfl,aI rfl,aI rfl,rfl⟩ ⟨rfl,rfl,trivial⟩ ?_
   refine eZ 7 (by kernel_rfl) rfl rfl aA rfl (by trivial) ?_ (fun h=>by first | rfl | cases h)
   refine df 8 ?_
   refine mF 9 (dM (xs:=(R.vns (R.run ys.length) (R.ex (R.run ys.length) ys.length) (R.clk (R.run ys.length) ys.length q k) (R.vl ys.length))) (k:=(cO (bZ (aJ (R.wl (R.run ys.length) q (R.I ys.length)) (k)).1 ((q:Nat):Int)) (R.vns (R.run ys.length) (R.ex (R.run ys.length) ys.length) (R.clk (R.run ys.length) ys.length q k) (R.vl ys.length)))) (x:=(R.vn (R.run ys.length) (R.ex (R.run ys.length) ys.length) (R.clk (R.run ys.length) ys.length q k) (j,q))) (f:=(eA false)) (z:=18) (o:=14) (x':=(⟨(R.vn (R.run ys.length) (R.ex (R.run ys.length) ys.length) (R.clk (R.run ys.length) ys.length q k) (j,q)).y,(R.vn (R.run ys.length) (R.ex (R.run ys.length) ys.length) (R.clk (R.run ys.length) ys.length q k) (j,q)).e,(R.vn (R.run ys.length) (R.ex (R.run ys.length) ys.length) (R.clk (R.run ys.length) ys.length q k) (j,q)).l,(R.vn (R.run ys.length) (R.ex (R.run ys.length) ys.length) (R.clk (R.run ys.length) ys.length q k) (j,q)).u,(R.vn (R.run ys.length) (R.ex (R.run ys.length) ys.length) (R.clk (R.run ys.length) ys.length q k) (j,q)).x,(aJ (R.wl (R.run ys.length) q (R.I ys.length)) (k)).2⟩:Vn)) (us:=(Fr4.of (aJ (R.wl (R.run ys.length) q (R.I ys.length)) (k)).2).tr false) (dQ false) (hge) (Nat.le_of_ble_eq_true rfl) rfl) (eM (xs:=(R.vns (R.run ys.length) (R.ex (R.run ys.length) ys.length) (R.clk (R.run ys.length) ys.length q k) (R.vl ys.length))) (k:=(cO (bZ (aJ (R.wl (R.run ys.length) q (R.I ys.length)) (k)).1 ((q:Nat):Int)) (R.vns (R.run ys.length) (R.ex (R.run ys.length) ys.length) (R.clk (R.run ys.length) ys.length q k) (R.vl ys.length)))) (f:=(eA false)) (z:=18) (o:=14) (us:=(Fr4.of (aJ (R.wl (R.run ys.length) q (R.I ys.length)) (k)).2).tr false) (dQ false) (by omega) (Nat.le_of_ble_eq_true rfl)) ?_
   refine aQ ?_;refine rl ?_;refine o1 ?_;refine WL.cast (t:=95) (u':=.int .i64 ((k+1:Nat):Int)) rfl (aC (by omega)) ?_
   refine o1 ?_;refine nl ?_
   exact⟨k+1,by omega,by omega,aP h0 [0,1,2,3] _ _ (by decide) ⟨rfl,rfl,rfl,rfl,rfl,rfl,rfl,rfl,rfl,trivial⟩ ⟨oe rfl rfl,oe rfl rfl,aI (congrArg (fun l:List Vn=>some (⟨64,18,(l.flatMap (eA false)).map .t⟩:Ob)) hset),aI rfl,rfl⟩⟩
  refine ex ?_;refine rl ?_;refine o1 ?_;refine WL.cast (t:=96) (u':=.int .i64 ((q+1:Nat):Int)) rfl (aC (by omega)) ?_
  refine o1 ?_;refine nl ?_
  have hxk:(R.vns (R.run ys.length) (R.ex (R.run ys.length) ys.length) (R.clk (R.run ys.length) ys.length q k) (R.vl ys.length))=(R.vns (R.run ys.length) (R.ex (R.run ys.length) ys.length) (R.clk (R.run ys.length) ys.length (q+1) 0) (R.vl ys.length)):=Id fun p hp=>⟨rfl,Yq hIv (by omega) hq9 (gQ.1 hp).1⟩
  exact⟨q+1,by omega,by omega,aP h0 [0,1,2,3] _ _ (by decide) ⟨rfl,rfl,rfl,rfl,rfl,trivial⟩ ⟨oe rfl rfl,oe rfl rfl,aI (congrArg (fun l:List Vn=>some (⟨64,18,(l.flatMap (eA false)).map .t⟩:Ob)) hxk),aI rfl,rfl⟩⟩
 refine ex ?_;refine sq ?_;have hqq:q=R.E:=by omega
 subst hqq
 have hfin:(R.vns (R.run ys.length) (R.ex (R.run ys.length) ys.length) (R.clk (R.run ys.length) ys.length R.E 0) (R.vl ys.length))=(R.vnE ys.length):=Id fun p hp=>⟨rfl,Ys (gQ.1 hp).2.1⟩
 refine WP.sub (oB (j:=1) (key:=4) (p:=0) (e:=62) (z:=5) (n:=(R.rls (R.run ys.length) ys.length).length) (trs:=(R.rls (R.run ys.length) ys.length).flatMap lB) rfl rfl rfl rfl rfl) ?_
 refine WP.sub (oB (j:=1) (key:=5) (p:=2) (e:=58) (z:=7) (n:=(R.run ys.length).length) (trs:=(R.run ys.length).flatMap (jE false)) rfl rfl rfl rfl rfl) ?_;refine rl ?_
 (iterate 3 refine o1 ?_);refine ld ?_;refine st ?_;refine o1 ?_;refine nl ?_;refine rt ?_
 have h9:(.s true 64 18 (R.vl ys.length).length ((R.vns (R.run ys.length) (R.ex (R.run ys.length) ys.length) (R.clk (R.run ys.length) ys.length R.E 0) (R.vl ys.length)).flatMap (eA false)):Tr)=cZ true false (R.vnE ys.length):=by
  rw[hfin];unfold cZ Rg.vnE;rw[eQ]
 exact en (.inl rfl) rfl (uU (.cons (.agg (.cons (.sl (trs:=(R.rls (R.run ys.length) ys.length).flatMap lB) rfl rfl (cD _ _ (cM iW _)) (cM iW _)) (.cons (.sl (trs:=(R.vns (R.run ys.length) (R.ex (R.run ys.length) ys.length) (R.clk (R.run ys.length) ys.length R.E 0) (R.vl ys.length)).flatMap (eA false)) rfl rfl (cD _ _ (by rw[cM (dQ false),eQ])) (by rw[cM (dQ false),eQ])) (.cons (.sl (trs:=(R.run ys.length).flatMap (jE false)) rfl rfl (cD _ _ (cM (fR false) _)) (cM (fR false) _)) .nil)))) (.cons (cR _) .nil))) (by decide) (fun h=>by cases h) (congrArg (fun z:Tr=>FV.tup [.agg [.t (dF true (R.rls (R.run ys.length) ys.length)),.t z,.t (cN true false (R.run ys.length))],.one (tv (.int .i64 0))]) h9)
def eS (a:Fr4):Bool:=decide (a.x.length≤3)&&decide (a.y.length≤3)
def kW (y:Yr):Bool:=decide (y.m.length≤6)&&(decide (y.b.length≤6)&&(eS y.l&&y.b.all eS))
def lN (ys:List Yr):Bool:= !(decide (10<ys.length)&&decide (ys.length≤40)|| decide (60<ys.length))&&ys.all kW
theorem Am {a:Fr4}(h:eS a=true):a.len 3:=by
 unfold eS at h
 simp only[Bool.and_eq_true,decide_eq_true_eq]at h
 exact h
theorem Ie {α:Type}{l:List α}{d:α}{p:α→Bool}(h:∀j,j<l.length→p (l.getD j d)=true):l.all p=true:=by
 rw[List.all_eq_true]
 intro x hx
 obtain⟨j,hj,rfl⟩:=List.getElem_of_mem hx
 have:=h j hj
 rwa[List.getD_eq_getElem?_getD,List.getElem?_eq_getElem hj]at this
theorem Ms {y:Yr}{k:Nat}(hk:k<y.b.length) (h:eS (dI y.b k)=false):kW y=false:=by
 have h1:y.b.all eS=false:=by
  rw[List.all_eq_false]
  exact⟨dI y.b k,pS hk,by simp[h]⟩
 unfold kW
 rw[h1]
 simp
theorem If {y:Yr}{k:Nat}(hm:y.m.length≤6) (hb:y.b.length≤6) (hl:eS y.l=true) (hk:y.b.length≤k) (h:∀j,j<k→eS (dI y.b j)=true):kW y=true:=by
 unfold kW
 rw[decide_eq_true hm,decide_eq_true hb,hl,Ie (d:=Xe) fun j hj=>h j (by omega)]
 rfl
theorem lY {ys:List Yr}{k:Nat}(hk:k<ys.length) (h:kW (aT ys k)=false):lN ys=false:=by
 have h1:ys.all kW=false:=by
  rw[List.all_eq_false]
  exact⟨aT ys k,jH hk,by simp[h]⟩
 unfold lN
 rw[h1]
 simp
theorem Yw {ys:List Yr}{k:Nat}(hk:ys.length≤k) (h:∀j,j<k→kW (aT ys j)=true):lN ys= !(decide (10<ys.length)&&decide (ys.length≤40)|| decide (60<ys.length)):=by
 unfold lN
 rw[Ie (d:=BM) fun j hj=>h j (by omega),Bool.and_true]
theorem Ig {ys:List Yr}{k:Nat}(hk:ys.length≤k) (h:∀j,j<k→kW (aT ys j)=true) (hl:ys.length≤10∨40<ys.length∧ys.length≤60):lN ys=true:=by
 rw[Yw hk h]
 simp only[Bool.not_eq_true',Bool.or_eq_false_iff,Bool.and_eq_false_iff,decide_eq_false_iff_not]
 omega
theorem yX {ys:List Yr}(h:(10<ys.length∧ys.length≤40)∨60<ys.length):lN ys=false:=by
 unfold lN
 have:(decide (10<ys.length)&&decide (ys.length≤40)|| decide (60<ys.length))=true:=by
  simp only[Bool.or_eq_true,Bool.and_eq_true,decide_eq_true_eq]
  omega
 rw[this]
 rfl
theorem nJ {y:Yr}(h:6<y.m.length∨6<y.b.length∨eS y.l=false):kW y=false:=by
 unfold kW
 rcases h with h | h | h
 ·rw[decide_eq_false (show¬y.m.length≤6 by omega)];rfl
 ·rw[decide_eq_false (show¬y.b.length≤6 by omega),Bool.false_and,Bool.and_false]
 rw[h,Bool.false_and,Bool.and_false,Bool.and_false]
theorem Ih {ys:List Yr}(h:lN ys=true):(ys.length≤10∨40<ys.length∧ys.length≤60)∧∀y∈ys,y.m.length≤6∧y.b.length≤6∧y.l.len 3∧∀a∈y.b,a.len 3:=by
 unfold lN at h
 simp only[Bool.and_eq_true,Bool.not_eq_true',Bool.or_eq_false_iff,Bool.and_eq_false_iff,decide_eq_false_iff_not,List.all_eq_true]at h
 refine⟨by omega,fun y hy=>?_⟩
 have h2:=h.2 y hy
 unfold kW at h2
 simp only[Bool.and_eq_true,decide_eq_true_eq,List.all_eq_true]at h2
 exact⟨h2.1,h2.2.1,Am h2.2.2.1,fun a ha=>Am (h2.2.2.2 a ha)⟩
structure Agr (R R':Rg) (k:Nat):Prop where
 f:R.f=R'.f
 e:R.E=R'.E
 m:∀y,y<k→R.mem y=R'.mem y
 b:∀y,y<k→R.base y=R'.base y
 l:∀y,y<k→R.lim y=R'.lim y
section
variable {R R':Rg}{U W:List Ur}{k n t y e i:Nat}{p:Ur→Bool}
theorem Ec:∀(a b:List Rat),eG (a++b)=eG a+eG b
 | [],b=>by rw[List.nil_append];show _=0+_;grind
 | x::a,b=>by rw[List.cons_append,gG,Ec a b,gG,Rat.add_assoc]
theorem Ii:∀(L:List (Nat×Nat)) (U:List Ur),∃W,L.foldl (fun U p=>R.use U p.1 p.2 t) U=U++W∧∀u∈W,u.y=(t:Int)∧0<u.n
 | [],U=>⟨[],(List.append_nil U).symm,fun _ h=>(by cases h)⟩
 | p::L,U=>by
  rw[List.foldl_cons]
  obtain⟨W,h1,h2⟩:=Ii L (R.use U p.1 p.2 t)
  rw[h1]
  unfold Rg.use Rg.us
  split
  ·rename_i h
   refine⟨⟨p.1,p.2,t,_⟩::W,by rw[List.append_assoc];rfl,fun u hu=>?_⟩
   rcases List.mem_cons.1 hu with rfl | hu
   ·exact⟨rfl,h⟩
   exact h2 u hu
  exact⟨W,rfl,h2⟩
theorem Mt:∀{n:Nat}{u:Ur},u∈R.run n→0<u.n
 | 0,_,h=>by cases h
 | n+1,u,h=>by
  obtain⟨V,h3,h4⟩:=Ii (R:=R) (t:=n) ((R.vl n).filter (R.may n)) (R.run n)
  have h5:R.run (n+1)=R.run n++V:=h3
  rw[h5]at h
  rcases List.mem_append.1 h with h | h
  ·exact Mt h
  exact(h4 u h).2
end
section
variable {ys:List Yr}{f k i:Nat}
end
theorem Yx {B:Nat}:∀{l:List Rat},(∀q∈l,Sz B q)→Sz (2+l.length*(B+1)) (eG l):=fun{l} h=>by
 have key:∀(l:List Rat) (p:Rat) (m:Nat),Sz m p→(∀q∈l,Sz B q)→Sz (m+l.length*(B+1)) (l.foldl (· + ·) p):=by
  intro l
  induction l with
  | nil=>intro p m hp _;simpa using hp
  | cons q l ih=>
   intro p m hp hl
   have h1:=ih (p+q) (m+B+1) (Ij hp (hl q (List.mem_cons_self ..))) fun z hz=>hl z (List.mem_cons_of_mem _ hz)
   rw[List.foldl_cons,List.length_cons,Nat.add_mul,Nat.one_mul]
   exact h1.mono (by omega)
 exact key l 0 2 ((sE (z:=0) (by omega) (by omega)).mono (by omega)) h
section
variable {R:Rg}{U W:List Ur}{N n k t y e:Nat}
theorem Ik {Q:List Ur→Prop}(h:∀U y e,Q U→Q (R.use U y e t)):∀(L:List (Nat×Nat)) (U:List Ur),Q U→Q (L.foldl (fun U p=>R.use U p.1 p.2 t) U)
 | [],_,h0=>h0
 | p::L,U,h0=>Ik h L _ (h U p.1 p.2 h0)
theorem Mv {Q:List Ur→Prop}(h0:Q []) (h:∀U y e t,Q U→Q (R.use U y e t)):∀n,Q (R.run n)
 | 0=>h0
 | n+1=>Ik (fun U y e=>h U y e n) _ _ (Mv h0 h n)
theorem Mw:(R.vnE n).length=(R.vl n).length:=eQ
theorem LH {i:Nat}(hi:i<(R.vnE n).length):∃y e,(y,e)∈R.vl n∧bD (R.vnE n) i=R.vn (R.run n) (R.ex (R.run n) n) (R.cl (R.run n) n) (y,e):=by
 rw[Mw]at hi
 refine⟨(R.vl n)[i].1,(R.vl n)[i].2,List.getElem_mem hi,?_⟩
 unfold Rg.vnE Rg.vns bD
 rw[List.getD_eq_getElem?_getD,List.getElem?_map,List.getElem?_eq_getElem hi]
 rfl
theorem Ed:eG [fB U y e,R.ex U n y e,R.cl U n y e]=R.los y e:=by
 rw[gG,gG,gG,show eG []=0 from rfl]
 unfold Rg.ex Rg.cl
 by_cases h:y+R.f<n
 ·rw[if_pos h,if_neg (by omega),An (R:=R)];grind
 rw[if_neg h,if_pos (by omega),An (R:=R)];grind
theorem LI (hI:R.Iv n U) (hy:y<n) (he:e<R.E):0≤fB U y e:=by
 have:=(hI.v y e hy he).1.2
 rw[An (R:=R)]
 grind
theorem QE (hI:R.Iv n U) (hy:y<n) (he:e<R.E):0≤R.ex U k y e:=by
 unfold Rg.ex
 split
 ·exact(hI.v y e hy he).1.1
 exact Rat.le_refl
theorem QF (hI:R.Iv n U) (hy:y<n) (he:e<R.E):0≤R.cl U k y e:=by
 unfold Rg.cl
 split
 ·exact(hI.v y e hy he).1.1
 exact Rat.le_refl
theorem tQ {M:Nat}(h:2≤M):Sz M (0:Rat):=(sE (z:=0) (by omega) (by omega)).mono h
theorem CE (hO:R.Ok n) (hI:R.Iv n U) (hy:y<n) (he:e<R.E):Sz 300 (R.ex U k y e):=by
 unfold Rg.ex
 split
 ·exact hI.sz_left hO hy he
 exact tQ (by omega)
theorem CF (hO:R.Ok n) (hI:R.Iv n U) (hy:y<n) (he:e<R.E):Sz 300 (R.cl U k y e):=by
 unfold Rg.cl
 split
 ·exact hI.sz_left hO hy he
 exact tQ (by omega)
theorem To (h:(y,e)∈R.vl n):y<n∧e<R.E∧R.mem y e=false∧R.los y e=-(R.base y e)∧0<R.los y e:=by
 obtain⟨h1,h2,h3⟩:=gQ.1 h
 have h4:=sC h3
 unfold Rg.isV at h3
 simp only[Bool.and_eq_true,Bool.not_eq_true']at h3
 exact⟨h1,h2,h3.1,h4⟩
theorem Cj (hO:R.Ok N):∀{n:Nat},n≤N→∀u∈R.run n,Sz 300 u.n
 | 0,_,u,h=>by cases h
 | n+1,hn,u,h=>by
  have key:∀(L:List (Nat×Nat)) (V:List Ur),R.Iv N V→(∀u∈V,Sz 300 u.n)→(∀p∈L,p.1<N∧p.2<R.E)→∀u∈L.foldl (fun U p=>R.use U p.1 p.2 n) V,Sz 300 u.n:=by
   intro L
   induction L with
   | nil=>intro V _ h _;exact h
   | cons p L ih=>
    intro V hI hV hL
    have h1:=hL p (List.mem_cons_self ..)
    refine ih _ (hI.use h1.1 h1.2 (by omega)) (fun u hu=>?_) fun q hq=>hL q (List.mem_cons_of_mem _ hq)
    dsimp only at hu
    unfold Rg.use at hu
    by_cases h0:0<aO (R.left V p.1 p.2) [R.room V p.2 n]
    ·rw[lC h0]at hu
     rcases List.mem_append.1 hu with hu | hu
     ·exact hV u hu
     rw[List.mem_singleton]at hu
     subst hu
     refine hO.sz (Rat.le_of_lt h0) ?_ ((hI.v _ _ h1.1 h1.2).2.min (Il hI h1.2 (by omega)))
     exact Rat.le_trans (pZ _ _) (Rat.le_trans (hI.v _ _ h1.1 h1.2).1.2 (hO.los_le h1.1 h1.2))
    rw[tM h0]at hu
    exact hV u hu
  exact key _ _ (hO.run (by omega)) (Cj hO (n:=n) (by omega)) (fun p hp=>by
   have:=gQ.1 (List.mem_filter.1 hp).1
   exact⟨by omega,this.2.1⟩) u h
theorem LJ {p:Ur→Bool}{B:Nat}(h:∀u∈U,Sz B u.n):Sz (2+U.length*(B+1)) (oG U p):=by
 unfold oG
 refine(Yx (B:=B) fun q hq=>?_).mono ?_
 ·obtain⟨u,hu,rfl⟩:=List.mem_map.1 hq
  exact h u (List.mem_filter.1 hu).1
 rw[List.length_map]
 have:=Nat.mul_le_mul (List.length_filter_le p U) (Nat.le_refl (B+1))
 omega
theorem Ck {p:Ur→Bool}{B M:Nat}(h:∀u∈U,Sz B u.n) (hM:2+U.length*(B+1)≤M):Sz M (oG (U.take k) p):=by
 refine(LJ (B:=B) fun u hu=>h u (List.mem_of_mem_take hu)).mono ?_
 have:=Nat.mul_le_mul (show(U.take k).length≤U.length by rw[List.length_take];omega) (Nat.le_refl (B+1))
 omega
theorem base_le {b:Rat}:b≤fH 0 [b]∧0≤fH 0 [b]:=by
 show b≤(if(0:Rat)<b then b else 0)∧0≤(if(0:Rat)<b then b else 0)
 split <;> exact⟨by grind,by grind⟩
theorem Im:fN (R.run n) t e≤fH 0 [R.base t e]:=by
 refine Mv (Q:=fun U=>fN U t e≤fH 0 [R.base t e]) base_le.2 (fun U y' e' t' h=>?_) n
 unfold Rg.use
 by_cases h0:0<aO (R.left U y' e') [R.room U e' t']
 ·rw[lC h0,rV]
  split
  ·rename_i hq
   have e1:t'=t:=by omega
   have e2:e'=e:=by omega
   subst e1
   subst e2
   have h1:=yY (R.left U y' e') (R.room U e' t')
   have h2:=In (R:=R) (U:=U) (e:=e') (t:=t')
   have h3:=(base_le (b:=R.base t' e')).1
   grind
  exact h
 rw[tM h0]
 exact h
theorem Io {u:Ur}{p:Ur→Bool}:oG (u::U) p=(if p u then u.n else 0)+oG U p:=by
 unfold oG
 by_cases h:p u=true
 ·rw[List.filter_cons_of_pos h,List.map_cons,gG,if_pos h]
 rw[List.filter_cons_of_neg h,if_neg h]
 grind
theorem Tp {α:Type}(L:List α):eG (L.map fun _=>(0:Rat))=0:=by
 induction L with
 | nil=>rfl
 | cons a L ih=>rw[List.map_cons,gG,ih];grind
theorem Ip {α:Type}{f g:α→Rat}(L:List α):eG (L.map fun a=>f a+g a)=eG (L.map f)+eG (L.map g):=by
 induction L with
 | nil=>show(0:Rat)=0+0;grind
 | cons a L ih=>rw[List.map_cons,List.map_cons,List.map_cons,gG,gG,gG,ih];grind
theorem Iq {a:Rat}{e0:Nat}:∀{E:Nat},eG ((List.range E).map fun(e:Nat)=>if(e0:Int)=(e:Int)then a else 0)=if e0<E then a else 0
 | 0=>by rw[if_neg (by omega)];rfl
 | E+1=>by
  rw[List.range_succ,List.map_append,Ec,Iq,List.map_cons,List.map_nil,gG,show eG []=0 from rfl]
  by_cases h1:e0<E
  ·rw[if_pos h1,if_neg (by omega),if_pos (by omega)];grind
  rw[if_neg h1]
  by_cases h2:e0=E
  ·rw[if_pos (by omega),if_pos (by omega)];grind
  rw[if_neg (by omega),if_neg (by omega)];grind
theorem LK (h:∀u∈U,∃e:Nat,u.e=(e:Int)∧e<R.E):eG ((List.range R.E).map fun(e:Nat)=>fN U t e)=eI U t:=by
 induction U with
 | nil=>exact Tp _
 | cons u U ih=>
  have h1:=ih fun u hu=>h u (List.mem_cons_of_mem _ hu)
  obtain⟨e0,he0,hlt⟩:=h u (List.mem_cons_self ..)
  unfold eI
  rw[Io]
  show _=_+eI U t
  rw[←h1,show(fun(e:Nat)=>fN (u::U) t e)=fun(e:Nat)=>(if(e0:Int)=(e:Int)then(if decide (u.y=(t:Int))=true then u.n else 0)else 0)+fN U t e from by
   funext e
   unfold fN
   rw[Io,he0]
   congr 1
   by_cases h2:u.y=(t:Int) <;> by_cases h3:(e0:Int)=(e:Int) <;> simp[h2,h3],Ip,Iq,if_pos hlt]
theorem FP:∀u∈R.run n,∃e:Nat,u.e=(e:Int)∧e<R.E:=fun u hu=>by
 obtain⟨y,e,t,_,h2,_,_,_,_,h6⟩:=pF hu
 exact⟨e,h2,h6⟩
theorem LL {i:Nat}(hi:i<n):mG (R.rls U n) i=R.rl U i:=by
 unfold Rg.rls mG
 rw[List.getD_eq_getElem?_getD,List.getElem?_map,List.getElem?_range hi]
 rfl
end
section
variable {R:Rg}{U V W:List Ur}{N n k t y e:Nat}{p:Nat×Nat}{m:Rat}
end
theorem LM {a b:Fr4}{p q:Rat}(ha:Qn a p) (hb:Qn b q):aD true Tryz.prog 53 [] [qF a,qF b] (aN (.one (tv (.bool (decide (p<q)))))):=by
 refine cB Tryz.func53 rfl Tryz.ntmps53 rfl aA rfl fun N w c0 h0=>?_
 refine sq ?_;refine rl ?_;refine bx 0 ?_;refine bx 1 ?_;refine o1 ?_;refine nl ?_;refine sq ?_;refine rl ?_;refine ld ?_;refine o1 ?_;refine ld ?_
 refine ca (xB hb ha) lL ⟨aE rfl,aE rfl,rfl⟩ (.one (tv (.int .i64 (q-p).num.sign))) ?_;refine o1 ?_;refine o1 ?_;refine nl ?_;refine rt ?_
 exact en (.inl rfl) rfl (aZ (cR _)) (by decide) (fun _=>trivial) (congrArg (fun z=>FV.one (tv (.bool z))) (FQ p q))
theorem LN {a:Fr4}:aD false Tryz.prog 52 [] [qF a] (aN (.one (.t (.f 53 [.a (a.tr false)] [])))):=by
 refine cB Tryz.func52 rfl Tryz.ntmps52 rfl aA rfl fun N w c0 h0=>?_
 refine sq ?_;refine rl ?_;refine bx 0 ?_;refine o1 ?_;refine nl ?_;refine sq ?_;refine rl ?_;refine ld ?_;refine o1 ?_;refine o1 ?_;refine nl ?_;refine rt ?_
 exact en (.inl rfl) rfl (aZ (.one (.id rfl))) (by decide) (fun h=>by cases h) rfl
theorem FS {a:Fr4}{p:Rat}{xs:List Fr4}(ha:Qn a p) (hx:∀x∈xs,x.ok) (hl:xs.length≤1099511627776):aD false Tryz.prog 51 [] [qF a,.one (.t (sQ false xs)),.one (.t (.f 52 [] []))] (aN (qF (.of (fH p (xs.map Fr4.q))))):=by
 refine cB Tryz.func51 rfl Tryz.ntmps51 rfl aA rfl fun N w c0 h0=>?_
 have hz:∀x∈xs,Sz 68719476736 x.q:=fun x h=>(show Qn x x.q from⟨hx x h,rfl⟩).sz
 refine sq ?_;refine rl ?_;refine bx 0 ?_;refine al 1 ?_;refine nl ?_;refine sq ?_;refine rl ?_;refine ld ?_;refine ca (iY ha) kV ⟨aE rfl,rfl⟩ (qF (.of p)) ?_
 refine ca (fF (z:=0) (by omega) (by omega)) lM ⟨a1 rfl,rfl⟩ (qF (.of ((0:Int):Rat))) ?_
 refine ca (Ae ha.sz) yT ⟨aE rfl,aE rfl,rfl⟩ (qF (.of p)) ?_;refine al 2 ?_;refine st ?_;refine nl ?_;refine sq ?_;refine sq ?_;refine rl ?_;(iterate 3 refine o1 ?_);refine nl ?_
 refine bl ?_
 refine lp (γ:=Nat) (fun k=>cC [(2,.one (.t (.f 52 [] []))),(6,.one (.pt 0 0)),(7,.one (.pt 1 0)),(14,.one (.t (sQ false xs))),(15,.one (tv (.int .i64 ((xs.length:Nat):Int)))),(16,.one (tv (.int .i64 ((k:Nat):Int))))]) (fun k=>[(⟨48,0,[tv (.bool false),tv (.slice none 0 0),tv (.bool false),tv (.slice none 0 0)]⟩:Ob),⟨48,0,((Fr4.of (fH p ((xs.take k).map Fr4.q))).tr false).map .t⟩].map some) (fun k=>k≤xs.length∧Sz 68719476736 (fH p ((xs.take k).map Fr4.q))) (fun k=>xs.length-k) 0 ⟨Nat.zero_le _,ha.sz⟩ (aP h0 [1,2] _ _ (by decide) ⟨rfl,rfl,rfl,rfl,rfl,rfl,trivial⟩ ⟨oe rfl rfl,aI rfl,rfl⟩) fun k hk=>?_
 refine sq ?_;refine rl ?_;refine o1 ?_;refine nl ?_;refine sq ?_;refine bN rfl (fun h1=>?_) (fun h1=>?_)
 ·refine sk ?_;refine sq ?_;refine bl ?_;refine sq ?_;refine rl ?_;refine o1 ?_;refine dZ ((dI xs (k)).tr false) (jR xs (k:=k) (by omega)) ?_
  refine al 2 ?_;refine st ?_;refine nl ?_;refine sq ?_;refine rd [0,1,2] (fun i=>[].contains i) mixed ?_
  refine dv 0 ?_;refine aL 1 ?_;refine dv 2 ?_;refine aL 4 ?_
  refine qV 3 3 [.agg [tv (.bool (aH (fH p ((xs.take k).map Fr4.q)).num)),.t (sU false (dg 4294967296 (fH p ((xs.take k).map Fr4.q)).num.natAbs)),tv (.bool false),.t (sU false (dg 4294967296 (fH p ((xs.take k).map Fr4.q)).den))]] rfl rfl (LN (a:=.of (fH p ((xs.take k).map Fr4.q)))) SX ⟨rfl,rfl⟩ ?_
  refine qV 5 3 [qF (dI xs (k))] rfl rfl (LM (a:=.of (fH p ((xs.take k).map Fr4.q))) (b:=(dI xs (k))) (Qn.of (p:=(fH p ((xs.take k).map Fr4.q))) hk.2) ⟨hx _ (gM (by omega)),rfl⟩) SY ⟨rfl,rfl⟩ ?_
  refine aQ ?_;refine bN rfl (fun h2=>?_) (fun h2=>?_)
  ·refine rl ?_;refine ld ?_;refine ca (iY ⟨hx _ (gM (by omega)),rfl⟩) kV ⟨aE rfl,rfl⟩ (qF (.of (dI xs (k)).q)) ?_
   refine ca (fF (z:=0) (by omega) (by omega)) lM ⟨a1 rfl,rfl⟩ (qF (.of ((0:Int):Rat))) ?_
   refine ca (Ae (hz _ (gM (by omega)))) yT ⟨aE rfl,aE rfl,rfl⟩ (qF (.of (dI xs (k)).q)) ?_
   refine st ?_;refine nl ?_;refine rl ?_;refine o1 ?_;refine WL.cast (t:=30) (u':=.int .i64 ((k+1:Nat):Int)) rfl (aC (by omega)) ?_
   refine o1 ?_;refine nl ?_;have hst:(fH p ((xs.take (k+1)).map Fr4.q))=(dI xs k).q:=by rw[vN (by omega),Ee];exact if_pos h2
   exact⟨k+1,by omega,⟨by omega,by rw[hst];exact hz _ (gM (by omega))⟩,aP h0 [0,1] _ _ (by decide) ⟨rfl,rfl,rfl,rfl,rfl,rfl,trivial⟩ ⟨oe rfl rfl,aI (congrArg (fun q=>some (⟨48,0,((Fr4.of q).tr false).map .t⟩:Ob)) hst.symm),rfl⟩⟩
  refine sk ?_;refine rl ?_;refine o1 ?_;refine WL.cast (t:=30) (u':=.int .i64 ((k+1:Nat):Int)) rfl (aC (by omega)) ?_
  refine o1 ?_;refine nl ?_;have hst:(fH p ((xs.take (k+1)).map Fr4.q))=(fH p ((xs.take k).map Fr4.q)):=by rw[vN (by omega),Ee];exact if_neg h2
  exact⟨k+1,by omega,⟨by omega,by rw[hst];exact hk.2⟩,aP h0 [0,1] _ _ (by decide) ⟨rfl,rfl,rfl,rfl,rfl,rfl,trivial⟩ ⟨oe rfl rfl,aI (congrArg (fun q=>some (⟨48,0,((Fr4.of q).tr false).map .t⟩:Ob)) hst.symm),rfl⟩⟩
 refine ex ?_;refine sq ?_;refine rl ?_;refine ld ?_;refine st ?_;refine nl ?_;refine rt ?_
 exact en (.inl rfl) rfl (aZ (.agg (.cons (.id rfl) (.cons (.id rfl) (.cons (.id rfl) (.cons (.id rfl) .nil)))))) (by decide) (fun h=>by cases h) (by rw[List.take_of_length_le (by omega)];rfl)
theorem QG {a:Fr4}{p:Rat}{xs:List Fr4}(ha:Qn a p) (hx:∀x∈xs,x.ok) (hl:xs.length≤1099511627776):aD false Tryz.prog 22 [] [qF a,.one (.t (sQ false xs))] (aN (qF (.of (fH p (xs.map Fr4.q))))):=by
 refine cB Tryz.func22 rfl Tryz.ntmps22 rfl aA rfl fun N w c0 h0=>?_
 refine sq ?_;refine rl ?_;refine bx 0 ?_;refine al 1 ?_;refine nl ?_;refine sq ?_;refine rl ?_;refine ld ?_;refine o1 ?_
 refine ca (FS ha hx hl) JQ ⟨aE rfl,a1 rfl,a1 rfl,rfl⟩ (qF (.of (fH p (xs.map Fr4.q)))) ?_;refine st ?_;refine nl ?_;refine rt ?_
 exact en (.inl rfl) rfl (aZ (.agg (.cons (.id rfl) (.cons (.id rfl) (.cons (.id rfl) (.cons (.id rfl) .nil)))))) (by decide) (fun h=>by cases h) (rfl)
end Go.Proofs.YtbbabfkgdnkehaaGreat
