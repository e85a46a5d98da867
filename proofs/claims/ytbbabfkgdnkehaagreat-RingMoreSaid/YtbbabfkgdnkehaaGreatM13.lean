/- Part 13 of a proof: Vj to Rib7. -/
import Derived.Test.YtbbabfkgdnkehaaGreatM12
import Derived.Test.YtbbabfkgdnkehaaGreatM8
import Derived.Test.YtbbabfkgdnkehaaGreatM11
import Derived.Test.YtbbabfkgdnkehaaGreatM5
import Derived.Test.YtbbabfkgdnkehaaGreatM7
import Derived.ProofKit
import Derived.ChangeOld
import Derived.Deep.Slices
import Derived.Deep.Strs
import Derived.Test.YtbbabfkgdnkehaaGreatM10
import Derived.WalkKit
import Derived.OpenShut
import Derived.Below
import Derived.Carry
set_option maxRecDepth 100000
set_option linter.unusedVariables false
set_option linter.unusedSimpArgs false
namespace Go.Proofs.YtbbabfkgdnkehaaGreat
open Go Go.RowKit
def Rg.vlk (R:Rg) (t e:Nat):List (Nat×Nat):=R.vl t++((List.range e).filter (R.isV t)).map fun e=>(t,e)
def Rg.own1 (R:Rg) (U:List Ur) (t k:Nat):List (List (Int×Rat)×Int×Bool):=(List.range R.E).map fun e=>if e<k then(R.wl U e (R.I t++[t]),(R.lp e (t+1)).1,(R.lp e (t+1)).2)else(R.wl U e (R.I t),(R.lp e t).1,(R.lp e t).2)
def Rg.own2 (R:Rg) (U:List Ur) (t k:Nat):List (List (Int×Rat)×Int×Bool):=(List.range R.E).map fun e=>if e<k then(R.wl U e (R.I (t+1)),(R.lp e (t+1)).1,(R.lp e (t+1)).2)else(R.wl U e (R.I t++[t]),(R.lp e (t+1)).1,(R.lp e (t+1)).2)
def Rg.ex (R:Rg) (U:List Ur) (k y e:Nat):Rat:=if y+R.f<k then R.left U y e else 0
def Rg.exk (R:Rg) (U:List Ur) (t e:Nat) (b:Bool) (y e':Nat):Rat:=if e'<e∨(e'=e∧b=true)then R.ex U (t+1) y e' else R.ex U t y e'
section
variable {R:Rg}{U:List Ur}{N y e e' t k:Nat}{p:Ur→Bool}
open Rg
theorem sY (h:∀u∈U,p u=false):lU U p=0:=by
 unfold lU
 rw[List.filter_eq_nil_iff.2 fun u hu=>by rw[h u hu];simp]
 rfl
theorem EH {u:Ur}(h:u∈R.use U y e t):u∈U∨(u.v=y∧u.e=e∧u.y=t):=by
 unfold Rg.use Rg.us at h
 split at h
 ·rcases List.mem_append.1 h with h | h
  ·exact .inl h
  rw[List.mem_singleton]at h
  subst h
  exact .inr ⟨rfl,rfl,rfl⟩
 exact .inl h
theorem Gx {u:Ur}:∀(L:List (Nat×Nat)) (V:List Ur),u∈L.foldl (fun U p=>R.use U p.1 p.2 t) V→u∈V∨∃p∈L,u.v=(p.1:Int)∧u.e=(p.2:Int)∧u.y=t
 | [],V,h=>.inl h
 | p::L,V,h=>by
  rw[List.foldl_cons]at h
  rcases Gx L _ h with h | ⟨q,hq,h⟩
  ·rcases EH h with h | h
   ·exact .inl h
   exact .inr ⟨p,List.mem_cons_self ..,h⟩
  exact .inr ⟨q,List.mem_cons_of_mem _ hq,h⟩
theorem rM {u:Ur}:∀{k:Nat},u∈R.run k→∃y e t:Nat,u.v=y∧u.e=e∧u.y=t∧y<t∧t<k∧R.may t (y,e)=true∧e<R.E
 | 0,h=>by cases h
 | k+1,h=>by
  rcases Gx _ _ h with h | ⟨p,hp,h1,h2,h3⟩
  ·obtain⟨y,e,t,h1,h2,h3,h4,h5,h6⟩:=rM (k:=k) h
   exact⟨y,e,t,h1,h2,h3,h4,by omega,h6⟩
  rw[List.mem_filter,gH]at hp
  exact⟨p.1,p.2,k,h1,h2,h3,hp.1.1,by omega,hp.2,hp.1.2.1⟩
theorem Ln (h:k≤y+1):qC (R.run k) y e=0:=sY fun u hu=>by
 obtain⟨y',e',t',h1,h2,h3,h4,h5,_⟩:=rM hu
 have:decide (u.v=(y:Int))=false:=decide_eq_false (by omega)
 simp[this]
theorem Gy (h:k≤y+1):R.left (R.run k) y e=R.los y e:=by
 unfold Rg.left
 rw[Ln h]
 grind
theorem EI (h:k≤y):eW (R.run k) y=0:=sY fun u hu=>by
 obtain⟨y',e',t',h1,h2,h3,h4,h5,_⟩:=rM hu
 exact decide_eq_false (by omega)
theorem EJ {e:Int}(h:k≤y):jI (R.run k) y e=0:=sY fun u hu=>by
 obtain⟨y',e',t',h1,h2,h3,h4,h5,_⟩:=rM hu
 have:decide (u.y=(y:Int))=false:=decide_eq_false (by omega)
 simp[this]
theorem Sm (h:R.may t (y,e)=false):R.left (R.step U t) y e=R.left U y e:=by
 unfold Rg.step
 exact sX (p:=(y,e)) _ _ fun hm=>by
  have:=(List.mem_filter.1 hm).2
  rw[h]at this
  cases this
theorem Xe:R.ex (R.step U t) t=R.ex U t:=by
 funext y e
 unfold Rg.ex
 by_cases h:y+R.f<t
 ·rw[if_pos h,if_pos h]
  refine Sm ?_
  unfold Rg.may
  have:decide (t≤y+R.f)=false:=decide_eq_false (by omega)
  simp[this]
 rw[if_neg h,if_neg h]
theorem KD (h:t≤y):R.ex U t y e=0:=if_neg (by omega)
theorem BJ:∀{t:Nat},(R.lp e t).2=true→(R.lp e t).1<(t:Int)
 | 0,h=>by cases h
 | t+1,h=>by
  unfold Rg.lp at h⊢
  cases hv:R.isV t e
  ·rw[hv]at h
   have:=BJ (t:=t) h
   show(R.lp e t).1<_
   omega
  show(t:Int)<_
  omega
theorem Xf:R.vlk t 0=R.vl t:=by simp[Rg.vlk]
theorem EK:R.vlk t R.E=R.vl (t+1):=rfl
theorem EL (h:R.isV t e=true):R.vlk t (e+1)=R.vlk t e++[(t,e)]:=by
 unfold Rg.vlk
 rw[List.range_succ,List.filter_append,List.filter_cons_of_pos h]
 simp
theorem KE (h:R.isV t e=false):R.vlk t (e+1)=R.vlk t e:=by
 unfold Rg.vlk
 rw[List.range_succ,List.filter_append,List.filter_cons_of_neg (by simp[h])]
 simp
theorem Sn:R.own1 U t 0=R.own U (R.I t) t:=by
 unfold Rg.own1 Rg.own
 exact List.map_congr_left fun e _=>if_neg (by omega)
theorem Xg:R.own1 U t R.E=R.own2 U t 0:=by
 unfold Rg.own1 Rg.own2
 exact List.map_congr_left fun e he=>by rw[if_pos (List.mem_range.1 he),if_neg (by omega)]
theorem Xh:R.own2 U t R.E=R.own U (R.I (t+1)) (t+1):=by
 unfold Rg.own2 Rg.own
 exact List.map_congr_left fun e he=>if_pos (List.mem_range.1 he)
theorem Gz (he:e<R.E):cT (R.own1 U t e) e=(R.wl U e (R.I t),(R.lp e t).1,(R.lp e t).2):=by
 have h:=oP (f:=fun e'=>if e'<e then(R.wl U e' (R.I t++[t]),(R.lp e' (t+1)).1,(R.lp e' (t+1)).2)else(R.wl U e' (R.I t),(R.lp e' t).1,(R.lp e' t).2)) (d:=([],0,false)) he
 rw[if_neg (by omega)]at h
 exact h
theorem Xi (he:e<R.E):cT (R.own2 U t e) e=(R.wl U e (R.I t++[t]),(R.lp e (t+1)).1,(R.lp e (t+1)).2):=by
 have h:=oP (f:=fun e'=>if e'<e then(R.wl U e' (R.I (t+1)),(R.lp e' (t+1)).1,(R.lp e' (t+1)).2)else(R.wl U e' (R.I t++[t]),(R.lp e' (t+1)).1,(R.lp e' (t+1)).2)) (d:=([],0,false)) he
 rw[if_neg (by omega)]at h
 exact h
theorem gC:(R.own1 U t k).length=R.E:=by simp[Rg.own1]
theorem yF:(R.own2 U t k).length=R.E:=by simp[Rg.own2]
theorem Ha (he:e<R.E):(R.own1 U t e).set e (R.wl U e (R.I t++[t]),(R.lp e (t+1)).1,(R.lp e (t+1)).2)=R.own1 U t (e+1):=by
 have h:=wR (f:=fun e'=>if e'<e then(R.wl U e' (R.I t++[t]),(R.lp e' (t+1)).1,(R.lp e' (t+1)).2)else(R.wl U e' (R.I t),(R.lp e' t).1,(R.lp e' t).2)) (g:=fun e'=>if e'<e+1 then(R.wl U e' (R.I t++[t]),(R.lp e' (t+1)).1,(R.lp e' (t+1)).2)else(R.wl U e' (R.I t),(R.lp e' t).1,(R.lp e' t).2)) he fun z _ hne=>by
  by_cases h:z<e
  ·rw[if_pos h,if_pos (by omega)]
  rw[if_neg h,if_neg (by omega)]
 rw[if_pos (by omega)]at h
 exact h
theorem Xj (he:e<R.E):(R.own2 U t e).set e (R.wl U e (R.I (t+1)),(R.lp e (t+1)).1,(R.lp e (t+1)).2)=R.own2 U t (e+1):=by
 have h:=wR (f:=fun e'=>if e'<e then(R.wl U e' (R.I (t+1)),(R.lp e' (t+1)).1,(R.lp e' (t+1)).2)else(R.wl U e' (R.I t++[t]),(R.lp e' (t+1)).1,(R.lp e' (t+1)).2)) (g:=fun e'=>if e'<e+1 then(R.wl U e' (R.I (t+1)),(R.lp e' (t+1)).1,(R.lp e' (t+1)).2)else(R.wl U e' (R.I t++[t]),(R.lp e' (t+1)).1,(R.lp e' (t+1)).2)) he fun z _ hne=>by
  by_cases h:z<e
  ·rw[if_pos h,if_pos (by omega)]
  rw[if_neg h,if_neg (by omega)]
 rw[if_pos (by omega)]at h
 exact h
theorem So:R.wl U e (R.I t++[t])=R.wl U e (R.I t)++if 0<R.left U t e then [((t:Int),R.left U t e)]else []:=by
 rw[EM]
 congr 1
 by_cases h:0<R.left U t e
 ·rw[iP h,if_pos h]
  rfl
 rw[kP h,if_neg h]
 rfl
theorem EN (he:e<R.E) (h0:∀e,R.left U t e=R.los t e) (hv:R.isV t e=false):R.own1 U t (e+1)=R.own1 U t e:=by
 rw[←Ha he]
 have h1:R.wl U e (R.I t++[t])=R.wl U e (R.I t):=by rw[So,h0,zT hv,if_neg (by grind),List.append_nil]
 have h2:R.lp e (t+1)=R.lp e t:=by
  show(bif R.isV t e then _ else _)=_
  rw[hv]
  rfl
 rw[h1,h2,←Gz he]
 apply List.ext_getElem?
 intro i
 rw[List.getElem?_set]
 split
 ·rename_i hi
  subst hi
  rw[if_pos (by rw[gC];exact he),Df (by rw[gC];exact he)]
 rfl
theorem KF (hv:R.isV t e=true):R.lp e (t+1)=((t:Int),true):=by
 show(bif R.isV t e then _ else _)=_
 rw[hv]
 rfl
theorem Xk:R.exk U t 0 false=R.ex U t:=by
 funext y e
 exact if_neg (by simp)
theorem Hb:R.exk U t e true=R.exk U t (e+1) false:=by
 funext y e'
 unfold Rg.exk
 by_cases h:e'<e∨e'=e
 ·rw[if_pos (by simpa using h),if_pos (.inl (by omega))]
 rw[if_neg (by simpa using h),if_neg (by simp;omega)]
theorem EO (he:e<R.E):R.exk U t R.E false y e=R.ex U (t+1) y e:=if_pos (.inl he)
theorem Xl (hI:R.Iv N U) (ht:t<N) (he:e<R.E) (hE:R.wl U e (R.J t)=[]):R.exk U t e false=R.exk U t e true:=by
 funext y e'
 unfold Rg.exk
 by_cases h:e'<e
 ·rw[if_pos (.inl h),if_pos (.inl h)]
 by_cases h2:e'=e
 ·subst h2
  rw[if_neg (by simp),if_pos (by simp)]
  unfold Rg.ex
  by_cases h3:y+R.f<t
  ·rw[if_pos h3,if_pos (by omega)]
  rw[if_neg h3]
  by_cases h4:y+R.f<t+1
  ·rw[if_pos h4]
   have hy:y∈R.J t:=Hc.2 (by omega)
   have h5:=(hI.v y e' (by omega) he).1.1
   have h6:¬0<R.left U y e':=fun h7=>by
    have:=hG.2 ⟨y,hy,rfl,h7⟩
    rw[hE]at this
    cases this
   grind
  rw[if_neg h4]
 rw[if_neg (by simp;omega),if_neg (by simp;omega)]
theorem Lo:(R.wl U e (R.J t)).length≤1:=by
 have h1:∀x∈R.wl U e (R.J t),x.1=(t:Int)-(R.f:Int):=fun x hx=>by
  obtain⟨i,hi,rfl,_⟩:=hG.1 hx
  have:=Hc.1 hi
  dsimp only
  omega
 have h2:(R.J t).Pairwise (· < ·):=by
  unfold Rg.J
  refine List.Pairwise.filter _ (List.pairwise_append.2 ⟨Oz,List.pairwise_singleton _ _,fun a ha b hb=>?_⟩)
  have:=jD.1 ha
  rw[List.mem_singleton]at hb
  omega
 have h3:=Lp (R:=R) (U:=U) (e:=e) h2
 generalize R.wl U e (R.J t)=L at h1 h3
 match L,h1,h3 with
 | [],_,_=>exact Nat.zero_le _
 | [x],_,_=>exact Nat.le_refl _
 | x::y::L,h1,h3=>
  have h4:=(List.pairwise_cons.1 h3).1 y (List.mem_cons_self ..)
  have h5:=h1 x (List.mem_cons_self ..)
  have h6:=h1 y (List.mem_cons_of_mem _ (List.mem_cons_self ..))
  omega
end
theorem yG (q:Rat):q.num.sign<0↔q<0:=by
 rw[Int.sign_neg_iff]
 have:=Rat.num_nonneg (q:=q)
 constructor
 ·intro h
  rcases Rat.le_total (a:=0) (b:=q)with h1 | h1
  ·have:=this.2 h1;omega
  rcases Rat.le_iff_lt_or_eq.1 h1 with h2 | h2
  ·exact h2
  rw[h2]at h;cases h
 intro h
 rcases Int.lt_or_le q.num 0 with h1 | h1
 ·exact h1
 have:=this.1 h1;grind
theorem Xm {q:Rat}{y last:Int}{put:Bool}(h0:0≤q) (hl:put=true→last<y):dQ (bM (Fr4.of q).s (Fr4.of q).x (Fr4.of q).t (Fr4.of q).y) q y last put=0:=by
 have h1:bM (Fr4.of q).s (Fr4.of q).x (Fr4.of q).t (Fr4.of q).y=true:=Dk q
 have h2:¬q.num.sign<0:=by
  have:=Rat.num_nonneg.2 h0
  rw[Int.not_lt]
  exact Int.sign_nonneg_iff.2 this
 unfold dQ
 rw[h1,if_neg (by simp),if_neg (by simp[h2])]
 cases put with
 | false=>rfl
 | true=>rw[if_neg (by have:=hl rfl;simp;omega)]
theorem Xn {q:Rat}{y:Int}{vs:List (Int×Rat)}:jG 0 q y vs=vs++(if 0<q then [(y,q)]else []):=by
 unfold jG
 rw[if_pos rfl]
 by_cases h:0<q
 ·rw[if_pos (decide_eq_true ((kB q).2 h)),if_pos h]
 rw[if_neg (by simpa using fun h9=>h ((kB q).1 h9)),if_neg h,List.append_nil]
theorem KG {vs:List (Int×Rat)}{last y:Int}{put:Bool}{q:Rat}(hs:Sz 68719476736 q) (h0:0≤q) (hp:put=true→last<y) (hl:vs.length≤1073741822):aD false Tryz.prog 71 [⟨137,0,[.t (sR 102 vs),tv (.int .i64 last),tv (.bool put)]⟩] [.one (.pt 0 0),.one (tv (.int .i64 y)),qF (.of q)] (Rt [⟨137,0,[.t (sR 102 (vs++if 0<q then [(y,q)]else [])),tv (.int .i64 y),tv (.bool true)]⟩] (.one (tv (.int .i64 0)))):=by
 have h:=OU (last:=last) (y:=y) (put:=put) (Qn.of hs) hl
 rw[Xm h0 hp,Xn]at h
 exact h
theorem EP (xs:List Vn) (x:Vn):(xs.flatMap (eF false)).map AV.t++(eF false x).map .t=((xs++[x]).flatMap (eF false)).map .t:=by simp[List.flatMap_append]
theorem Xo {R:Rg}{U:List Ur}{x c:Nat→Nat→Rat}{L:List (Nat×Nat)}{p:Nat×Nat}:R.vns U x c L++[R.vn U x c p]=R.vns U x c (L++[p]):=by simp[Rg.vns]
theorem EQ {R:Rg}{t e:Nat}(h:R.E≤6) (he:e≤R.E):(R.vlk t e).length≤6*t+6:=by
 unfold Rg.vlk
 have h1:=rL (R:=R) h t
 have h2:=List.length_filter_le (R.isV t) (List.range e)
 rw[List.length_range]at h2
 rw[List.length_append,List.length_map]
 omega
theorem Hd {R:Rg}{N k:Nat}(h:R.Ok N) (hk:k≤N):(R.run k).length≤1000:=by
 have gen:∀k:Nat,k≤10→(R.run k).length≤60*k:=by
  intro k
  induction k with
  | zero=>intro _;exact Nat.le_refl _
  | succ k ih=>
   intro hk
   have h1:=ih (by omega)
   have h2:∀(L:List (Nat×Nat)) (V:List Ur),(L.foldl (fun U p=>R.use U p.1 p.2 k) V).length≤V.length+L.length:=by
    intro L
    induction L with
    | nil=>intro V;simp
    | cons q L ih2=>
     intro V
     have h1:=ih2 (R.use V q.1 q.2 k)
     have h2:(R.use V q.1 q.2 k).length≤V.length+1:=Lk
     rw[List.foldl_cons,List.length_cons]
     omega
   have h3:=h2 ((R.vl k).filter (R.may k)) (R.run k)
   have h4:=List.length_filter_le (R.may k) (R.vl k)
   have h5:=rL (R:=R) h.e k
   show(R.step (R.run k) k).length≤_
   unfold Rg.step
   omega
 have h1:=h.n
 have:=gen k (by omega)
 omega
theorem KH {R:Rg}{N t:Nat}(hOk:R.Ok N) (ht:t<N):aD false Tryz.prog 39 [⟨95,0,[.t (dB true (R.rls (R.run t) t)),.t (cW true false (R.vns (R.run t) (R.ex (R.run t) t) (fun _ _=>(0:Rat)) (R.vl t))),.t (cJ true false (R.run t)),.t (dH (R.own (R.run t) (R.I t) t))]⟩] [.one (.pt 0 0),.one (tv (.int .i64 ((R.f:Nat):Int))),.one (tv (.int .i64 ((t:Nat):Int))),.agg ((R.yrq t).map .t)] (Rt [⟨95,0,[.t (dB true (R.rls (R.run (t+1)) (t+1))),.t (cW true false (R.vns (R.run (t+1)) (R.ex (R.run (t+1)) (t+1)) (fun _ _=>(0:Rat)) (R.vl (t+1)))),.t (cJ true false (R.run (t+1))),.t (dH (R.own (R.run (t+1)) (R.I (t+1)) (t+1)))]⟩] (.tup [])):=by
 refine Oy Tryz.func39 rfl Tryz.ntmps39 rfl aA rfl fun N9 M9 w9 c0 h0=>?_
 have hE:=hOk.e;have hN:=hOk.n;have hF:=hOk.f
 have hms:(R.ms t).length=R.E:=Si
 have hbl:((R.bs t).map Fr4.of).length=R.E:=by rw[List.length_map];exact vE
 refine sq ?_;refine rl ?_;refine bx 1 ?_;refine nl ?_;refine sq ?_;refine rl ?_;refine o1 ?_;refine o1 ?_;refine ld ?_;have hrl:=Hd (R:=R) hOk (k:=t) (by omega)
 refine cl 2 [0] (KC (U:=(R.run t)) (x:=(R.ex (R.run t) t)) (c:=(fun _ _=>(0:Rat))) hOk (hOk.run (by omega)) ht (EI (Nat.le_refl _)) (fun e _=>EJ (Nat.le_refl _)) hrl) RP ⟨oe rfl rfl,rfl⟩ ⟨rfl,rfl,rfl,rfl⟩ (ok:=[some ⟨95,0,[.t (dB true (R.rls (R.run (t+1)) (t+1))),.t (cW true false (R.vns (R.run (t+1)) (R.ex (R.run t) t) (fun _ _=>(0:Rat)) (R.vl t))),.t (cJ true false (R.run (t+1))),.t (dH (R.own (R.run (t+1)) (R.I t) t))]⟩]) ⟨oe rfl rfl,rfl⟩ ?_
 refine nl ?_;refine sq ?_;refine sq ?_;refine rl ?_;refine o1 ?_;refine ld ?_;refine o1 ?_;refine o1 ?_;refine nl ?_;refine bl ?_
 refine lp (γ:=Nat) (fun s=>cC [(0,.one (.pt 0 0)),(1,.one (tv (.int .i64 ((R.f:Nat):Int)))),(2,.one (tv (.int .i64 ((t:Nat):Int)))),(7,.one (.pt 1 0)),(20,.one (.t (gQ (R.ms t)))),(21,.one (tv (.int .i64 (((R.ms t).length:Nat):Int)))),(22,.one (tv (.int .i64 ((s:Nat):Int))))]) (fun s=>[(⟨95,0,[.t (dB true (R.rls (R.run (t+1)) (t+1))),.t (cW true false (R.vns (R.run (t+1)) (R.ex (R.run t) t) (fun _ _=>(0:Rat)) (R.vlk t s))),.t (cJ true false (R.run (t+1))),.t (dH (R.own1 (R.run (t+1)) t s))]⟩:Ob),⟨67,0,(R.yrq t).map .t⟩].map some) (fun s=>s≤R.E) (fun s=>R.E-s) 0 (Nat.zero_le _) (cI h0 [0,1] _ _ (by decide) rfl ⟨rfl,rfl,rfl,rfl,rfl,rfl,rfl,trivial⟩ ⟨oe rfl (by have h9:(some ⟨95,0,[.t (dB true (R.rls (R.run (t+1)) (t+1))),.t (cW true false (R.vns (R.run (t+1)) (R.ex (R.run t) t) (fun _ _=>(0:Rat)) (R.vl t))),.t (cJ true false (R.run (t+1))),.t (dH (R.own (R.run (t+1)) (R.I t) t))]⟩:Option Ob)=some ⟨95,0,[.t (dB true (R.rls (R.run (t+1)) (t+1))),.t (cW true false (R.vns (R.run (t+1)) (R.ex (R.run t) t) (fun _ _=>(0:Rat)) (R.vlk t 0))),.t (cJ true false (R.run (t+1))),.t (dH (R.own1 (R.run (t+1)) t 0))]⟩:=(by rw[Xf,Sn]);exact h9),aK rfl,rfl⟩) ?_
 rintro e he;refine sq ?_;refine rl ?_;refine o1 ?_;refine nl ?_;refine sq ?_;refine bN rfl (fun h1=>?_) (fun h1=>?_)
 ·refine sk ?_;refine sq ?_;refine bl ?_;refine sq ?_;have he9:e<R.E:=by omega
  refine rl ?_;refine o1 ?_;refine o1 ?_;refine eB ([.v (.bool (nX (R.ms t) (e)))]) (AU (R.ms t) (k:=e) (by omega)) ?_
  refine o1 ?_;refine o1 ?_;refine nl ?_
  refine md (γ:=Unit) (fun _=>cC [(0,.one (.pt 0 0)),(1,.one (tv (.int .i64 ((R.f:Nat):Int)))),(2,.one (tv (.int .i64 ((t:Nat):Int)))),(7,.one (.pt 1 0)),(8,.one (tv (.int .i64 ((e:Nat):Int)))),(20,.one (.t (gQ (R.ms t)))),(21,.one (tv (.int .i64 (((R.ms t).length:Nat):Int)))),(22,.one (tv (.int .i64 ((e:Nat):Int)))),(37,.one (tv (.bool (R.isV t e))))]) (fun _=>([⟨95,0,[.t ((dB true (R.rls (R.run (t+1)) (t+1)))),.t ((cW true false (R.vns (R.run (t+1)) (R.ex (R.run t) t) (fun _ _=>(0:Rat)) (R.vlk t e)))),.t ((cJ true false (R.run (t+1)))),.t ((dH (R.own1 (R.run (t+1)) t e)))]⟩,⟨67,0,[.t (gQ (R.ms t)),.t (sQ false ((R.bs t).map Fr4.of)),tv (.bool (aH (R.lim t).num)),.t (sU false (dg 4294967296 (R.lim t).num.natAbs)),tv (.bool false),.t (sU false (dg 4294967296 (R.lim t).den))]⟩]:List Ob).map some) (fun _=>True) ?_ fun _ _=>?_
  ·refine rl ?_;refine o1 ?_;refine WL.splitb (t:=27) rfl (fun h2=>?_) (fun h2=>?_)
   ·refine o1 ?_;refine o1 ?_;(iterate 7 refine dM ?_);refine o1 ?_;refine nl ?_
    exact⟨(),trivial,cI h0 [0,1] _ _ (by decide) rfl ⟨rfl,rfl,rfl,rfl,rfl,rfl,rfl,rfl,Dg (by unfold Rg.isV;rw[←zS he9];simp only[decide_eq_true h1,h2,Bool.not_true,Bool.not_false,Bool.or_true,Bool.true_or,Bool.false_or,Bool.or_false,Bool.false_eq_true,if_true,if_false,ite_true,ite_false,Bool.and_true,Bool.true_and,Bool.false_and,Bool.and_false,Bool.not_not] <;> first | rfl | (simp;done) | (rw[decide_eq_decide];exact(yG _).symm)),trivial⟩ ⟨oe rfl rfl,oe rfl rfl,rfl⟩⟩
   (iterate 3 refine o1 ?_);refine ld ?_;refine o1 ?_;refine o1 ?_
   refine eB ((Fr4.of (R.base t e)).tr false) ((by rw[←rI he9,←yD (by rw[vE];exact he9)];exact rE ((R.bs t).map Fr4.of) (k:=e) (by omega))) ?_
   refine ca (nL (Qn.of (p:=(R.base t e)) ((hOk.base t e ht he9).mono (M:=68719476736) (by omega)))) uX ⟨aG rfl,rfl⟩ (.one (tv (.int .i64 (R.base t e).num.sign))) ?_
   refine o1 ?_;refine o1 ?_;refine nl ?_
   exact⟨(),trivial,cI h0 [0,1] _ _ (by decide) rfl ⟨rfl,rfl,rfl,rfl,rfl,rfl,rfl,rfl,Dg (by unfold Rg.isV;rw[←zS he9];simp only[decide_eq_true h1,h2,Bool.not_true,Bool.not_false,Bool.or_true,Bool.true_or,Bool.false_or,Bool.or_false,Bool.false_eq_true,if_true,if_false,ite_true,ite_false,Bool.and_true,Bool.true_and,Bool.false_and,Bool.and_false,Bool.not_not] <;> first | rfl | (simp;done) | (rw[decide_eq_decide];exact(yG _).symm)),trivial⟩ ⟨oe rfl rfl,oe rfl rfl,rfl⟩⟩
  refine nK rfl (fun h3=>?_) (fun h3=>?_)
  ·refine sq ?_;have hv:R.isV t e=true:=h3
   have hpos:=(wT hv).2
   rw[(wT hv).1]at hpos;have hwl:=rK (R:=R) (U:=(R.run (t+1))) (e:=e) (I:=R.I t)
   have hIl:=rJ (R:=R) (k:=t)
   have hsn:Sz 68719476736 (-(R.base t e)):=(zW (hOk.base t e ht he9)).mono (by omega)
   have hO1:(R.own1 (R.run (t+1)) t e).length=R.E:=gC
   have hvl8:=EQ (R:=R) hE (t:=t) (e:=e) he
   refine rl ?_;refine o1 ?_;refine ld ?_;refine o1 ?_;refine o1 ?_
   refine eB ((Fr4.of (R.base t e)).tr false) ((by rw[←rI he9,←yD (by rw[vE];exact he9)];exact rE ((R.bs t).map Fr4.of) (k:=e) (by omega))) ?_
   refine ca (PE (Qn.of (p:=(R.base t e)) ((hOk.base t e ht he9).mono (M:=68719476736) (by omega)))) KI ⟨aG rfl,rfl⟩ (qF (.of (-(R.base t e)))) ?_
   refine al 2 ?_;refine st ?_;refine nl ?_;refine sq ?_
   refine WP.sub (nN (j:=0) (key:=3) (p:=3) (e:=96) (z:=1) (n:=(R.own1 (R.run (t+1)) t e).length) (trs:=(R.own1 (R.run (t+1)) t e).map dN) rfl rfl rfl rfl rfl) ?_
   refine WP.sub (Gu (j:=3) (key:=4) (p:=e) (e:=137) (trs:=[sR 102 (R.wl (R.run (t+1)) e (R.I t)),.v (.int .i64 (R.lp e t).1),.v (.bool (R.lp e t).2)]) rfl rfl (by rw[wQ (by omega),Gz he9];rfl) rfl) ?_
   refine rd [0,1,2,3] (fun i=>[].contains i) mixed ?_
   refine dv 0 ?_;refine dv 1 ?_;refine dv 2 ?_;refine aO 3 ?_;refine dv 4 ?_;refine dv 5 ?_
   refine Oh 6 (l:=(((R.own1 (R.run (t+1)) t e).map dN).map AV.t).set e (.pt 4 0)) (v:=.pt 4 0) (zQ (by rw[jP];omega)) ?_
   refine dv 7 ?_;refine aO 8 ?_
   have hput:=KG (vs:=(R.wl (R.run (t+1)) e (R.I t))) (last:=(R.lp e t).1) (y:=((t:Nat):Int)) (put:=(R.lp e t).2) (q:=-(R.base t e)) hsn (Rat.le_of_lt hpos) BJ (by omega)
   have hpw:(R.wl (R.run (t+1)) e (R.I t))++(if 0< -(R.base t e)then [(((t:Nat):Int),-(R.base t e))]else [])=(R.wl (R.run (t+1)) e (R.I t++[t])):=by rw[So,Gy (Nat.le_refl _),(wT hv).1]
   rw[hpw]at hput
   refine Sd 9 5 [4] rfl hput RQ ⟨oe rfl rfl,rfl⟩ ⟨rfl,rfl,rfl,rfl⟩ (ok:=[some ⟨137,0,[.t (sR 102 (R.wl (R.run (t+1)) e (R.I t++[t]))),tv (.int .i64 ((t:Nat):Int)),tv (.bool true)]⟩]) ⟨oe rfl rfl,rfl⟩ ⟨rfl,rfl,rfl,rfl,trivial⟩ ?_
   refine aQ ?_
   have hn1:(R.own1 (R.run (t+1)) t e).set e ((R.wl (R.run (t+1)) e (R.I t++[t])),((t:Nat):Int),true)=R.own1 (R.run (t+1)) t (e+1):=by rw[←Ha he9,KF hv]
   refine WP.sub (Bo (j:=3) (k:=4) (p:=e) (e:=137) (trs:=[sR 102 (R.wl (R.run (t+1)) e (R.I t++[t])),.v (.int .i64 ((t:Nat):Int)),.v (.bool true)]) (l':=((R.own1 (R.run (t+1)) t (e+1)).map dN).map .t) rfl rfl rfl (List.getElem?_set_self (by rw[jP];omega)) ((Gt (x:=((R.wl (R.run (t+1)) e (R.I t++[t])),((t:Nat):Int),true))).trans (by rw[hn1]))) ?_
   refine WP.sub (iO (j:=0) (k:=3) (p:=3) (e:=96) (z:=1) (n:=(R.own1 (R.run (t+1)) t e).length) (trs:=(R.own1 (R.run (t+1)) t (e+1)).map dN) rfl rfl rfl rfl rfl (bZ _ _ (by rw[List.length_map,gC,gC];omega)) (by rw[List.length_map,gC,gC];omega) rfl) ?_
   refine WP.sub (nN (j:=0) (key:=5) (p:=1) (e:=64) (z:=18) (n:=(R.vns (R.run (t+1)) (R.ex (R.run t) t) (fun _ _=>(0:Rat)) (R.vlk t e)).length) (trs:=(R.vns (R.run (t+1)) (R.ex (R.run t) t) (fun _ _=>(0:Rat)) (R.vlk t e)).flatMap (eF false)) rfl rfl rfl rfl rfl) ?_
   refine rd [0,1,2] (fun i=>[18].contains i) mixed ?_
   refine dv 0 ?_;refine dv 1 ?_;refine dv 2 ?_;refine dv 3 ?_;refine dv 4 ?_;refine aO 5 ?_;refine dv 6 ?_;refine dv 7 ?_;refine aO 8 ?_
   refine bD 9 rfl (iY (z:=0) (by omega) (by omega)) sS ⟨a1 rfl,rfl⟩ (qF (.of ((0:Int):Rat))) ?_
   refine bD 10 rfl (iY (z:=0) (by omega) (by omega)) sS ⟨a1 rfl,rfl⟩ (qF (.of ((0:Int):Rat))) ?_
   refine bD 11 rfl (iY (z:=0) (by omega) (by omega)) sS ⟨a1 rfl,rfl⟩ (qF (.of ((0:Int):Rat))) ?_
   refine df 12 ?_;refine kV (key:=6) 13 (by kernel_rfl) rfl rfl aA rfl ⟨rfl,rfl,rfl,trivial⟩ ?_
   refine nQ (j:=7) (n:=(R.vns (R.run (t+1)) (R.ex (R.run t) t) (fun _ _=>(0:Rat)) (R.vlk t e)).length) (l:=((R.vns (R.run (t+1)) (R.ex (R.run t) t) (fun _ _=>(0:Rat)) (R.vlk t e)).flatMap (eF false)).map .t) 14 rfl aA rfl rfl rfl (.sl rfl (by rw[List.length_map,cG (eG false)])) (.sl rfl rfl rfl) rfl rfl (by rw[eL];omega) (by rw[eL];omega) rfl ⟨rfl,rfl,rfl,trivial⟩ rfl (by kernel_rfl) rfl ?_
   refine eT 15 (by kernel_rfl) rfl rfl aA rfl (by trivial) ?_ (fun h=>by first | rfl | cases h)
   refine eT 16 (by kernel_rfl) rfl rfl aA rfl (by trivial) ?_ (fun h=>by first | rfl | cases h)
   refine df 17 ?_;refine dst 18 ?_;refine aQ ?_
   have hfin:R.vns (R.run (t+1)) (R.ex (R.run t) t) (fun _ _=>(0:Rat)) (R.vlk t e)++[⟨((t:Nat):Int),((e:Nat):Int),-(R.base t e),((0:Int):Rat),((0:Int):Rat),((0:Int):Rat)⟩]=R.vns (R.run (t+1)) (R.ex (R.run t) t) (fun _ _=>(0:Rat)) (R.vlk t (e+1)):=by
    rw[EL hv,←Xo];unfold Rg.vn;rw[Ln (Nat.le_refl _),KD (Nat.le_refl _),(wT hv).1];rfl
   have hlen9:(R.vns (R.run (t+1)) (R.ex (R.run t) t) (fun _ _=>(0:Rat)) (R.vlk t (e+1))).length=(R.vns (R.run (t+1)) (R.ex (R.run t) t) (fun _ _=>(0:Rat)) (R.vlk t e)).length+1:=by rw[←hfin,List.length_append];rfl
   refine WP.sub (iO (j:=0) (k:=7) (p:=1) (e:=64) (z:=18) (n:=(R.vns (R.run (t+1)) (R.ex (R.run t) t) (fun _ _=>(0:Rat)) (R.vlk t e)).length+1) (trs:=(R.vns (R.run (t+1)) (R.ex (R.run t) t) (fun _ _=>(0:Rat)) (R.vlk t (e+1))).flatMap (eF false)) rfl rfl rfl (congrArg (fun l:List AV=>some (⟨64,18,l⟩:Ob)) ((EP (R.vns (R.run (t+1)) (R.ex (R.run t) t) (fun _ _=>(0:Rat)) (R.vlk t e)) ⟨((t:Nat):Int),((e:Nat):Int),-(R.base t e),((0:Int):Rat),((0:Int):Rat),((0:Int):Rat)⟩).trans (by rw[hfin]))) rfl (bZ _ _ (by rw[cG (eG false),hlen9])) (by rw[cG (eG false),hlen9]) rfl) ?_
   refine rl ?_;refine o1 ?_;refine WL.cast (t:=72) (u':=.int .i64 ((e+1:Nat):Int)) rfl (aC (by omega)) ?_
   refine o1 ?_;refine nl ?_
   exact⟨e+1,by omega,by omega,cI h0 [0,1] _ _ (by decide) rfl ⟨rfl,rfl,rfl,rfl,rfl,rfl,rfl,trivial⟩ ⟨oe rfl (by have h9:(some ⟨95,0,[.t (dB true (R.rls (R.run (t+1)) (t+1))),.t (.s true 64 18 ((R.vns (R.run (t+1)) (R.ex (R.run t) t) (fun _ _=>(0:Rat)) (R.vlk t e)).length+1) ((R.vns (R.run (t+1)) (R.ex (R.run t) t) (fun _ _=>(0:Rat)) (R.vlk t (e+1))).flatMap (eF false))),.t (cJ true false (R.run (t+1))),.t (.s true 96 1 (R.own1 (R.run (t+1)) t e).length ((R.own1 (R.run (t+1)) t (e+1)).map dN))]⟩:Option Ob)=some ⟨95,0,[.t (dB true (R.rls (R.run (t+1)) (t+1))),.t (cW true false (R.vns (R.run (t+1)) (R.ex (R.run t) t) (fun _ _=>(0:Rat)) (R.vlk t (e+1)))),.t (cJ true false (R.run (t+1))),.t (dH (R.own1 (R.run (t+1)) t (e+1)))]⟩:=(by rw[cW,dH,hlen9,gC,gC]);exact h9),aK rfl,rfl⟩⟩
  refine sk ?_;have hv:R.isV t e=false:=h3
  refine rl ?_;refine o1 ?_;refine WL.cast (t:=72) (u':=.int .i64 ((e+1:Nat):Int)) rfl (aC (by omega)) ?_
  refine o1 ?_;refine nl ?_;have hv1:R.vlk t (e+1)=R.vlk t e:=KE hv
  have hv2:R.own1 (R.run (t+1)) t (e+1)=R.own1 (R.run (t+1)) t e:=EN he9 (fun e=>Gy (Nat.le_refl _)) hv
  exact⟨e+1,by omega,by omega,cI h0 [0,1] _ _ (by decide) rfl ⟨rfl,rfl,rfl,rfl,rfl,rfl,rfl,trivial⟩ ⟨oe rfl (by have h9:(some ⟨95,0,[.t (dB true (R.rls (R.run (t+1)) (t+1))),.t (cW true false (R.vns (R.run (t+1)) (R.ex (R.run t) t) (fun _ _=>(0:Rat)) (R.vlk t e))),.t (cJ true false (R.run (t+1))),.t (dH (R.own1 (R.run (t+1)) t e))]⟩:Option Ob)=some ⟨95,0,[.t (dB true (R.rls (R.run (t+1)) (t+1))),.t (cW true false (R.vns (R.run (t+1)) (R.ex (R.run t) t) (fun _ _=>(0:Rat)) (R.vlk t (e+1)))),.t (cJ true false (R.run (t+1))),.t (dH (R.own1 (R.run (t+1)) t (e+1)))]⟩:=(by rw[hv1,hv2]);exact h9),aK rfl,rfl⟩⟩
 refine ex ?_;refine sq ?_;have hee:e=R.E:=by omega
 subst hee;refine WP.sub (nN (j:=0) (key:=2) (p:=3) (e:=96) (z:=1) (n:=(R.own1 (R.run (t+1)) t R.E).length) (trs:=(R.own1 (R.run (t+1)) t R.E).map dN) rfl rfl rfl rfl rfl) ?_
 refine rl ?_;(iterate 3 refine o1 ?_);refine ld ?_;refine o1 ?_;refine o1 ?_;refine nl ?_;refine bl ?_
 have hx0:R.exk (R.run (t+1)) t 0 false=(R.ex (R.run t) t):=by rw[Xk];exact Xe
 refine lp (γ:=Nat) (fun s=>cC [(0,.one (.pt 0 0)),(1,.one (tv (.int .i64 ((R.f:Nat):Int)))),(2,.one (tv (.int .i64 ((t:Nat):Int)))),(76,.one (.sl 1 0 (R.E))),(77,.one (tv (.int .i64 ((R.E:Nat):Int)))),(78,.one (tv (.int .i64 ((s:Nat):Int))))]) (fun s=>[(⟨95,0,[.t (dB true (R.rls (R.run (t+1)) (t+1))),.t (cW true false (R.vns (R.run (t+1)) (R.exk (R.run (t+1)) t s false) (fun _ _=>(0:Rat)) (R.vl (t+1)))),.t (cJ true false (R.run (t+1))),.sl 1 0 R.E]⟩:Ob),⟨96,1,((R.own2 (R.run (t+1)) t s).map dN).map .t⟩].map some) (fun s=>s≤R.E) (fun s=>R.E-s) 0 (Nat.zero_le _) (cI h0 [0,2] _ _ (by decide) rfl ⟨rfl,rfl,rfl,(by rw[gC];rfl),Gb (by rw[gC]),rfl,trivial⟩ ⟨oe rfl (by have h9:(some ⟨95,0,[.t (dB true (R.rls (R.run (t+1)) (t+1))),.t (cW true false (R.vns (R.run (t+1)) (R.ex (R.run t) t) (fun _ _=>(0:Rat)) (R.vlk t R.E))),.t (cJ true false (R.run (t+1))),.sl 2 0 (R.own1 (R.run (t+1)) t R.E).length]⟩:Option Ob)=some ⟨95,0,[.t (dB true (R.rls (R.run (t+1)) (t+1))),.t (cW true false (R.vns (R.run (t+1)) (R.exk (R.run (t+1)) t 0 false) (fun _ _=>(0:Rat)) (R.vl (t+1)))),.t (cJ true false (R.run (t+1))),.sl 2 0 R.E]⟩:=(by rw[hx0,gC,EK]);exact h9),aK (by have h9:(some ⟨96,1,((R.own1 (R.run (t+1)) t R.E).map dN).map .t⟩:Option Ob)=some ⟨96,1,((R.own2 (R.run (t+1)) t 0).map dN).map .t⟩:=(by rw[Xg]);exact h9),rfl⟩) ?_
 rintro q hq;refine sq ?_;refine rl ?_;refine o1 ?_;refine nl ?_;refine sq ?_;refine bN rfl (fun h4=>?_) (fun h4=>?_)
 ·refine sk ?_;refine sq ?_;refine bl ?_;refine sq ?_;have hq9:q<R.E:=by omega
  have hIv:=hOk.run (k:=t+1) (by omega)
  have hal:=rK (R:=R) (U:=(R.run (t+1))) (e:=q) (I:=R.I t++[t])
  rw[List.length_append,List.length_singleton]at hal;have hIl:=rJ (R:=R) (k:=t)
  have hzz:∀x∈(R.wl (R.run (t+1)) q (R.I t++[t])),Sz 68719476736 x.2:=fun x hx=>by obtain⟨i,hi,rfl,_⟩:=hG.1 hx;exact(hIv.sz_left hOk (by rcases List.mem_append.1 hi with h | h;(have:=(jD.1 h).1;omega);(rw[List.mem_singleton]at h;omega)) hq9).mono (by omega)
  have hexp:=Wt (vs:=(R.wl (R.run (t+1)) q (R.I t++[t]))) (last:=(R.lp q (t+1)).1) (put:=(R.lp q (t+1)).2) (b:=((t:Nat):Int)-((R.f:Nat):Int)+1) (by omega) hzz
  rw[KJ,KK]at hexp
  refine WP.sub (Gu (j:=1) (key:=2) (p:=q) (e:=137) (trs:=[sR 102 (R.wl (R.run (t+1)) q (R.I t++[t])),.v (.int .i64 (R.lp q (t+1)).1),.v (.bool (R.lp q (t+1)).2)]) rfl rfl (by rw[wQ (by rw[yF];exact hq9),Xi hq9];rfl) rfl) ?_
  refine rl ?_;refine o1 ?_;refine o1 ?_;refine Kw (l:=(((R.own2 (R.run (t+1)) t q).map dN).map AV.t).set q (.pt 2 0)) (v:=.pt 2 0) (zQ (by rw[jP,yF];exact hq9)) ?_
  refine o1 ?_;refine o1 ?_;refine nl ?_;refine sq ?_;refine rl ?_;(iterate 5 refine o1 ?_)
  refine cl 3 [2] hexp RR ⟨oe rfl rfl,rfl⟩ ⟨rfl,rfl,rfl⟩ (ok:=[some ⟨137,0,[.t (sR 102 (R.wl (R.run (t+1)) q (R.I (t+1)))),tv (.int .i64 (R.lp q (t+1)).1),tv (.bool (R.lp q (t+1)).2)]⟩]) ⟨oe rfl rfl,rfl⟩ ?_
  refine o1 ?_;refine o1 ?_;refine nl ?_;refine bl ?_
  refine WP.sub (JV (i:=88) (k:=3) (n:=(R.wl (R.run (t+1)) q (R.J t)).length) 102 rfl rfl rfl (bH true _) (wP true _) (.one .sl)) ?_
  refine WP.sub (Bo (j:=1) (k:=2) (p:=q) (e:=137) (trs:=[sR 102 (R.wl (R.run (t+1)) q (R.I (t+1))),.v (.int .i64 (R.lp q (t+1)).1),.v (.bool (R.lp q (t+1)).2)]) (l':=((R.own2 (R.run (t+1)) t (q+1)).map dN).map .t) rfl rfl rfl (List.getElem?_set_self (by rw[jP,yF];exact hq9)) ((Gt (x:=((R.wl (R.run (t+1)) q (R.I (t+1))),(R.lp q (t+1)).1,(R.lp q (t+1)).2))).trans (by rw[Xj hq9]))) ?_
  refine WP.sub (nN (j:=0) (key:=4) (p:=1) (e:=64) (z:=18) (n:=(R.vns (R.run (t+1)) (R.exk (R.run (t+1)) t q false) (fun _ _=>(0:Rat)) (R.vl (t+1))).length) (trs:=(R.vns (R.run (t+1)) (R.exk (R.run (t+1)) t q false) (fun _ _=>(0:Rat)) (R.vl (t+1))).flatMap (eF false)) rfl rfl rfl rfl rfl) ?_
  refine lp (γ:=Nat) (fun s=>cC [(0,.one (.pt 0 0)),(1,.one (tv (.int .i64 ((R.f:Nat):Int)))),(2,.one (tv (.int .i64 ((t:Nat):Int)))),(11,.one (tv (.int .i64 ((q:Nat):Int)))),(76,.one (.sl 1 0 (R.E))),(77,.one (tv (.int .i64 ((R.E:Nat):Int)))),(78,.one (tv (.int .i64 ((q:Nat):Int)))),(88,.one (.t (sV 102 false (R.wl (R.run (t+1)) q (R.J t))))),(89,.one (tv (.int .i64 (((R.wl (R.run (t+1)) q (R.J t)).length:Nat):Int)))),(90,.one (tv (.int .i64 ((s:Nat):Int))))]) (fun s=>[(⟨95,0,[.t (dB true (R.rls (R.run (t+1)) (t+1))),.sl 2 0 (R.vl (t+1)).length,.t (cJ true false (R.run (t+1))),.sl 1 0 R.E]⟩:Ob),⟨96,1,((R.own2 (R.run (t+1)) t (q+1)).map dN).map .t⟩,⟨64,18,((R.vns (R.run (t+1)) (R.exk (R.run (t+1)) t q (decide (0<s))) (fun _ _=>(0:Rat)) (R.vl (t+1))).flatMap (eF false)).map .t⟩].map some) (fun s=>s≤(R.wl (R.run (t+1)) q (R.J t)).length) (fun s=>(R.wl (R.run (t+1)) q (R.J t)).length-s) 0 (Nat.zero_le _) (cI h0 [0,1,4] _ _ (by decide) rfl ⟨rfl,rfl,rfl,rfl,rfl,rfl,rfl,rfl,rfl,rfl,trivial⟩ ⟨oe rfl (by have h9:(some ⟨95,0,[.t (dB true (R.rls (R.run (t+1)) (t+1))),.sl 4 0 (R.vns (R.run (t+1)) (R.exk (R.run (t+1)) t q false) (fun _ _=>(0:Rat)) (R.vl (t+1))).length,.t (cJ true false (R.run (t+1))),.sl 1 0 R.E]⟩:Option Ob)=some ⟨95,0,[.t (dB true (R.rls (R.run (t+1)) (t+1))),.sl 4 0 (R.vl (t+1)).length,.t (cJ true false (R.run (t+1))),.sl 1 0 R.E]⟩:=(by rw[eL]);exact h9),aK rfl,aK rfl,rfl⟩) ?_
  rintro k hk;refine sq ?_;refine rl ?_;refine o1 ?_;refine nl ?_;refine sq ?_;refine bN rfl (fun h5=>?_) (fun h5=>?_)
  ·refine sk ?_;refine sq ?_;refine bl ?_;refine sq ?_;refine rl ?_;refine o1 ?_;refine eB (cD false (aI (R.wl (R.run (t+1)) q (R.J t)) (k))) (rF false (by omega)) ?_
   refine al 3 ?_;refine st ?_;refine nl ?_;have hJ1:=Lo (R:=R) (U:=(R.run (t+1))) (e:=q) (t:=t)
   obtain⟨j,hj,hxe,hjp⟩:=hG.1 (mR (vs:=(R.wl (R.run (t+1)) q (R.J t))) (k:=k) (by omega))
   have hj9:=Hc.1 hj
   have hx1:(aI (R.wl (R.run (t+1)) q (R.J t)) (k)).1=((j:Nat):Int):=by rw[hxe]
   have hx2:(aI (R.wl (R.run (t+1)) q (R.J t)) (k)).2=R.left (R.run (t+1)) j q:=by rw[hxe]
   have hk0:k=0:=by omega
   have hjv:R.isV j q=true:=by
    have h6:=(hIv.v j q (by omega) hq9).1.2
    cases h8:R.isV j q
    ·rw[zT h8]at h6
     grind
    rfl
   have hjm:(j,q)∈R.vl (t+1):=gH.2 ⟨by dsimp only;omega,hq9,hjv⟩
   have hfi:(cK (bX (aI (R.wl (R.run (t+1)) q (R.J t)) (k)).1 ((q:Nat):Int)) (R.vns (R.run (t+1)) (R.exk (R.run (t+1)) t q (decide (0<k))) (fun _ _=>(0:Rat)) (R.vl (t+1))))<(R.vns (R.run (t+1)) (R.exk (R.run (t+1)) t q (decide (0<k))) (fun _ _=>(0:Rat)) (R.vl (t+1))).length:=by rw[hx1,eL];exact(uV hjm).1
   have hvl9:=rL (R:=R) hE (t+1)
   have hge:(R.vns (R.run (t+1)) (R.exk (R.run (t+1)) t q (decide (0<k))) (fun _ _=>(0:Rat)) (R.vl (t+1)))[(cK (bX (aI (R.wl (R.run (t+1)) q (R.J t)) (k)).1 ((q:Nat):Int)) (R.vns (R.run (t+1)) (R.exk (R.run (t+1)) t q (decide (0<k))) (fun _ _=>(0:Rat)) (R.vl (t+1))))]? =some (R.vn (R.run (t+1)) (R.exk (R.run (t+1)) t q (decide (0<k))) (fun _ _=>(0:Rat)) (j,q)):=by rw[hx1];exact wG hjm
   have hset:(R.vns (R.run (t+1)) (R.exk (R.run (t+1)) t q (decide (0<k))) (fun _ _=>(0:Rat)) (R.vl (t+1))).set (cK (bX (aI (R.wl (R.run (t+1)) q (R.J t)) (k)).1 ((q:Nat):Int)) (R.vns (R.run (t+1)) (R.exk (R.run (t+1)) t q (decide (0<k))) (fun _ _=>(0:Rat)) (R.vl (t+1)))) (⟨(R.vn (R.run (t+1)) (R.exk (R.run (t+1)) t q (decide (0<k))) (fun _ _=>(0:Rat)) (j,q)).y,(R.vn (R.run (t+1)) (R.exk (R.run (t+1)) t q (decide (0<k))) (fun _ _=>(0:Rat)) (j,q)).e,(R.vn (R.run (t+1)) (R.exk (R.run (t+1)) t q (decide (0<k))) (fun _ _=>(0:Rat)) (j,q)).l,(R.vn (R.run (t+1)) (R.exk (R.run (t+1)) t q (decide (0<k))) (fun _ _=>(0:Rat)) (j,q)).u,(aI (R.wl (R.run (t+1)) q (R.J t)) (k)).2,(R.vn (R.run (t+1)) (R.exk (R.run (t+1)) t q (decide (0<k))) (fun _ _=>(0:Rat)) (j,q)).c⟩:Vn)=(R.vns (R.run (t+1)) (R.exk (R.run (t+1)) t q (decide (0<(k+1)))) (fun _ _=>(0:Rat)) (R.vl (t+1))):=by
    rw[hx1,hx2]
    have h9:=Bk (R:=R) (U:=(R.run (t+1))) (U':=(R.run (t+1))) (x:=(R.exk (R.run (t+1)) t q (decide (0<k)))) (x':=(R.exk (R.run (t+1)) t q (decide (0<(k+1))))) (c:=(fun _ _=>(0:Rat))) (c':=(fun _ _=>(0:Rat))) (pI (t+1)) hjm fun p _ hp=>by
     unfold Rg.vn;have h8:(R.exk (R.run (t+1)) t q (decide (0<k))) p.1 p.2=(R.exk (R.run (t+1)) t q (decide (0<(k+1)))) p.1 p.2:=by
      subst hk0;unfold Rg.exk;by_cases h5:p.2<q
      ·rw[if_pos (.inl h5),if_pos (.inl h5)]
      by_cases h6:p.2=q
      ·have h7:p.1≠j:=fun h=>hp (Prod.ext h h6)
       rw[if_neg (by simp;omega),if_pos (.inr ⟨h6,by simp⟩)]
       unfold Rg.ex;by_cases h4:p.1+R.f<t
       ·rw[if_pos h4,if_pos (by omega)]
       rw[if_neg h4,if_neg (by omega)]
      rw[if_neg (by simp;omega),if_neg (by simp;omega)]
     rw[h8]
    rw[←h9];unfold Rg.vn;have h7:(R.exk (R.run (t+1)) t q (decide (0<(k+1)))) j q=R.left (R.run (t+1)) j q:=by
     unfold Rg.exk Rg.ex;rw[if_pos (by simp),if_pos (by omega)]
    rw[h7]
   refine rd [3] (fun i=>[9].contains i) mixed ?_
   refine dv 0 ?_;refine dv 1 ?_;refine aO 2 ?_;refine dv 3 ?_;refine dv 5 ?_;refine aO 6 ?_
   have hvi:=zP (vs:=(R.vns (R.run (t+1)) (R.exk (R.run (t+1)) t q (decide (0<k))) (fun _ _=>(0:Rat)) (R.vl (t+1)))) (y:=(aI (R.wl (R.run (t+1)) q (R.J t)) (k)).1) (e:=((q:Nat):Int)) (ra:=(dB true (R.rls (R.run (t+1)) (t+1)))) (rb:=(cJ true false (R.run (t+1)))) (rc:=.v (.bool false)) (m:=R.E) (l3:=(R.own2 (R.run (t+1)) t (q+1)).map dN) hfi (by rw[eL];omega)
   rw[show(R.vns (R.run (t+1)) (R.exk (R.run (t+1)) t q (decide (0<k))) (fun _ _=>(0:Rat)) (R.vl (t+1))).length=(R.vl (t+1)).length from eL]at hvi
   refine IS 4 [0,2,1] rfl hvi Wx ⟨oe rfl rfl,aK rfl,aK rfl,rfl⟩ ⟨rfl,rfl,rfl,rfl⟩ (ok:=[some ⟨95,0,[.t (dB true (R.rls (R.run (t+1)) (t+1))),.sl 2 0 (R.vl (t+1)).length,.t (cJ true false (R.run (t+1))),.sl 1 0 R.E]⟩,some ⟨64,18,((R.vns (R.run (t+1)) (R.exk (R.run (t+1)) t q (decide (0<k))) (fun _ _=>(0:Rat)) (R.vl (t+1))).flatMap (eF false)).map .t⟩,some ⟨96,1,((R.own2 (R.run (t+1)) t (q+1)).map dN).map .t⟩]) ⟨oe rfl rfl,aK rfl,aK rfl,rfl⟩ ⟨rfl,trivial⟩ ?_
   refine eT 7 (by kernel_rfl) rfl rfl aA rfl (by trivial) ?_ (fun h=>by first | rfl | cases h)
   refine df 8 ?_
   refine lP 9 (dG (xs:=(R.vns (R.run (t+1)) (R.exk (R.run (t+1)) t q (decide (0<k))) (fun _ _=>(0:Rat)) (R.vl (t+1)))) (k:=(cK (bX (aI (R.wl (R.run (t+1)) q (R.J t)) (k)).1 ((q:Nat):Int)) (R.vns (R.run (t+1)) (R.exk (R.run (t+1)) t q (decide (0<k))) (fun _ _=>(0:Rat)) (R.vl (t+1))))) (x:=(R.vn (R.run (t+1)) (R.exk (R.run (t+1)) t q (decide (0<k))) (fun _ _=>(0:Rat)) (j,q))) (f:=(eF false)) (z:=18) (o:=10) (x':=(⟨(R.vn (R.run (t+1)) (R.exk (R.run (t+1)) t q (decide (0<k))) (fun _ _=>(0:Rat)) (j,q)).y,(R.vn (R.run (t+1)) (R.exk (R.run (t+1)) t q (decide (0<k))) (fun _ _=>(0:Rat)) (j,q)).e,(R.vn (R.run (t+1)) (R.exk (R.run (t+1)) t q (decide (0<k))) (fun _ _=>(0:Rat)) (j,q)).l,(R.vn (R.run (t+1)) (R.exk (R.run (t+1)) t q (decide (0<k))) (fun _ _=>(0:Rat)) (j,q)).u,(aI (R.wl (R.run (t+1)) q (R.J t)) (k)).2,(R.vn (R.run (t+1)) (R.exk (R.run (t+1)) t q (decide (0<k))) (fun _ _=>(0:Rat)) (j,q)).c⟩:Vn)) (us:=(Fr4.of (aI (R.wl (R.run (t+1)) q (R.J t)) (k)).2).tr false) (eG false) (hge) (Nat.le_of_ble_eq_true rfl) rfl) (eH (xs:=(R.vns (R.run (t+1)) (R.exk (R.run (t+1)) t q (decide (0<k))) (fun _ _=>(0:Rat)) (R.vl (t+1)))) (k:=(cK (bX (aI (R.wl (R.run (t+1)) q (R.J t)) (k)).1 ((q:Nat):Int)) (R.vns (R.run (t+1)) (R.exk (R.run (t+1)) t q (decide (0<k))) (fun _ _=>(0:Rat)) (R.vl (t+1))))) (f:=(eF false)) (z:=18) (o:=10) (us:=(Fr4.of (aI (R.wl (R.run (t+1)) q (R.J t)) (k)).2).tr false) (eG false) (by omega) (Nat.le_of_ble_eq_true rfl)) ?_
   refine aQ ?_;refine rl ?_;refine o1 ?_;refine WL.cast (t:=103) (u':=.int .i64 ((k+1:Nat):Int)) rfl (aC (by omega)) ?_
   refine o1 ?_;refine nl ?_
   exact⟨k+1,by omega,by omega,cI h0 [0,1,2] _ _ (by decide) rfl ⟨rfl,rfl,rfl,rfl,rfl,rfl,rfl,rfl,rfl,rfl,trivial⟩ ⟨oe rfl rfl,aK rfl,aK (congrArg (fun l:List Vn=>some (⟨64,18,(l.flatMap (eF false)).map .t⟩:Ob)) hset),rfl⟩⟩
  refine ex ?_;have hJ1:=Lo (R:=R) (U:=(R.run (t+1))) (e:=q) (t:=t)
  have hxk:(R.exk (R.run (t+1)) t q (decide (0<k)))=(R.exk (R.run (t+1)) t (q+1) false):=by
   by_cases hk0:0<k
   ·rw[decide_eq_true hk0]
    exact Hb
   have hE0:(R.wl (R.run (t+1)) q (R.J t))=[]:=List.eq_nil_of_length_eq_zero (by omega)
   rw[decide_eq_false hk0,Xl hIv ht hq9 hE0];exact Hb
  refine WP.sub (iO (j:=0) (k:=2) (p:=1) (e:=64) (z:=18) (n:=(R.vl (t+1)).length) (trs:=(R.vns (R.run (t+1)) (R.exk (R.run (t+1)) t (q+1) false) (fun _ _=>(0:Rat)) (R.vl (t+1))).flatMap (eF false)) rfl rfl rfl (congrArg (fun x:Nat→Nat→Rat=>some (⟨64,18,((R.vns (R.run (t+1)) x (fun _ _=>(0:Rat)) (R.vl (t+1))).flatMap (eF false)).map .t⟩:Ob)) hxk) rfl (bZ _ _ (by rw[cG (eG false),eL])) (by rw[cG (eG false),eL]) rfl) ?_
  refine rl ?_;refine o1 ?_;refine WL.cast (t:=104) (u':=.int .i64 ((q+1:Nat):Int)) rfl (aC (by omega)) ?_
  refine o1 ?_;refine nl ?_
  exact⟨q+1,by omega,by omega,cI h0 [0,1] _ _ (by decide) rfl ⟨rfl,rfl,rfl,rfl,rfl,rfl,trivial⟩ ⟨oe rfl (by have h9:(some ⟨95,0,[.t (dB true (R.rls (R.run (t+1)) (t+1))),.t (.s true 64 18 (R.vl (t+1)).length ((R.vns (R.run (t+1)) (R.exk (R.run (t+1)) t (q+1) false) (fun _ _=>(0:Rat)) (R.vl (t+1))).flatMap (eF false))),.t (cJ true false (R.run (t+1))),.sl 1 0 R.E]⟩:Option Ob)=some ⟨95,0,[.t (dB true (R.rls (R.run (t+1)) (t+1))),.t (cW true false (R.vns (R.run (t+1)) (R.exk (R.run (t+1)) t (q+1) false) (fun _ _=>(0:Rat)) (R.vl (t+1)))),.t (cJ true false (R.run (t+1))),.sl 1 0 R.E]⟩:=(by rw[cW,eL]);exact h9),aK rfl,rfl⟩⟩
 refine ex ?_;have hqq:q=R.E:=by omega
 subst hqq
 refine BH (iO (j:=0) (k:=1) (p:=3) (e:=96) (z:=1) (n:=R.E) (trs:=(R.own (R.run (t+1)) (R.I (t+1)) (t+1)).map dN) rfl rfl rfl (congrArg (fun l:List (List (Int×Rat)×Int×Bool)=>some (⟨96,1,(l.map dN).map .t⟩:Ob)) Xh) rfl (bZ _ _ (by rw[List.length_map,jF];omega)) (by rw[List.length_map,jF];omega) rfl) ?_
 have hvx:(R.vns (R.run (t+1)) (R.exk (R.run (t+1)) t R.E false) (fun _ _=>(0:Rat)) (R.vl (t+1)))=(R.vns (R.run (t+1)) (R.ex (R.run (t+1)) (t+1)) (fun _ _=>(0:Rat)) (R.vl (t+1))):=List.map_congr_left fun p hp=>by
  unfold Rg.vn;rw[EO (gH.1 hp).2.1]
 exact Bp <| gG (lent':=[⟨95,0,[.t (dB true (R.rls (R.run (t+1)) (t+1))),.t (cW true false (R.vns (R.run (t+1)) (R.ex (R.run (t+1)) (t+1)) (fun _ _=>(0:Rat)) (R.vl (t+1)))),.t (cJ true false (R.run (t+1))),.t (dH (R.own (R.run (t+1)) (R.I (t+1)) (t+1)))]⟩]) (.inr rfl) rfl pF (by decide) (fun _ h=>by cases h) ⟨⟨rfl,rfl⟩,trivial⟩ ⟨(by have h9:(some ⟨95,0,[.t (dB true (R.rls (R.run (t+1)) (t+1))),.t (cW true false (R.vns (R.run (t+1)) (R.exk (R.run (t+1)) t R.E false) (fun _ _=>(0:Rat)) (R.vl (t+1)))),.t (cJ true false (R.run (t+1))),.t (.s true 96 1 R.E ((R.own (R.run (t+1)) (R.I (t+1)) (t+1)).map dN))]⟩:Option Ob)=some ⟨95,0,[.t (dB true (R.rls (R.run (t+1)) (t+1))),.t (cW true false (R.vns (R.run (t+1)) (R.ex (R.run (t+1)) (t+1)) (fun _ _=>(0:Rat)) (R.vl (t+1)))),.t (cJ true false (R.run (t+1))),.t (dH (R.own (R.run (t+1)) (R.I (t+1)) (t+1)))]⟩:=(by rw[hvx,dH,jF]);exact h9),trivial⟩ ⟨rfl,trivial⟩ (fun h=>by cases h) ⟨rfl,rfl⟩
def fB (f:Nat) (ys:List Yr):Rg:=⟨f,(aP ys 0).m.length,fun y e=>nX (aP ys y).m e,fun y e=>(dY (aP ys y).b e).q,fun y=>(aP ys y).l.q⟩
section
variable {y:Yr}{ys:List Yr}{E f t N:Nat}
theorem Xp {l:List Bool}(h:l.length=E):(List.range E).map (nX l)=l:=by
 apply List.ext_getElem?
 intro i
 rw[List.getElem?_map]
 by_cases hi:i<E
 ·rw[List.getElem?_range hi]
  simp[nX,show i<l.length by omega]
 rw[List.getElem?_eq_none (by simp;omega),List.getElem?_eq_none (by omega)]
 rfl
theorem KL {l:List Fr4}(h:l.length=E) (hq:∀a∈l,a=Fr4.of a.q):((List.range E).map fun e=>(dY l e).q).map Fr4.of=l:=by
 apply List.ext_getElem?
 intro i
 rw[List.getElem?_map,List.getElem?_map]
 by_cases hi:i<E
 ·rw[List.getElem?_range hi]
  have h1:i<l.length:=by omega
  have h2:dY l i=l[i]:=by simp[dY,h1]
  rw[List.getElem?_eq_getElem h1]
  show some (Fr4.of (dY l i).q)=some l[i]
  rw[h2,←hq l[i] (List.getElem_mem h1)]
 rw[List.getElem?_eq_none (by simp;omega),List.getElem?_eq_none (by omega)]
 rfl
theorem KM (hm:y.m.length=E) (hb:y.b.length=E) (hq:∀a∈y.b,a=Fr4.of a.q) (hl:y.l=Fr4.of y.l.q):yrt y=[gQ ((List.range E).map (nX y.m)),sQ false (((List.range E).map fun e=>(dY y.b e).q).map Fr4.of)]++(Fr4.of y.l.q).tr false:=by
 rw[Xp hm,KL hb hq,←hl]
 rfl
theorem Sp {a:Fr4}(h:a=Fr4.of a.q) (h3:a.len 3):Sz 4 a.q:=by
 unfold Fr4.len at h3
 rw[h]at h3
 exact⟨Nat.le_trans h3.1 (by omega),Nat.le_trans h3.2 (by omega)⟩
theorem ER (hn:ys.length≤10) (h6:∀y∈ys,y.m.length≤6) (hE:∀y∈ys,y.b.length=(aP ys 0).m.length) (hf:f≤40) (hb:∀y∈ys,∀a∈y.b,a=Fr4.of a.q∧a.len 3) (hl:∀y∈ys,(y.l=Fr4.of y.l.q∧y.l.len 3)∧0≤y.l.q):(fB f ys).Ok ys.length:=by
 refine⟨fun t e ht he=>?_,fun t ht=>?_,fun t ht=>(hl _ (iE ht)).2,hn,?_,hf⟩
 ·have h1:=hE _ (iE ht)
  have h2:e<(aP ys t).b.length:=by rw[h1];exact he
  have h3:=hb _ (iE ht) (dY (aP ys t).b e) (pD h2)
  exact Sp h3.1 h3.2
 ·have h1:=hl _ (iE ht)
  exact Sp h1.1.1 h1.1.2
 cases ys with
 | nil=>exact Nat.zero_le _
 | cons y ys=>exact h6 y (List.mem_cons_self ..)
end
theorem ES {us:List Ur}{k:Nat}(h:k<us.length):us.take (k+1)=us.take k++[dI us k]:=by rw[List.take_add_one,fF h];rfl
def mJ (us:List Ur) (ent:Int):Rat:=lU us fun u=>decide (u.e=ent)
theorem BK {us:List Ur}{k:Nat}{ent:Int}(h:k<us.length):mJ (us.take (k+1)) ent=if(dI us k).e=ent then mJ (us.take k) ent+(dI us k).n else mJ (us.take k) ent:=by
 unfold mJ
 rw[ES h,sZ]
 simp only[decide_eq_true_eq]
theorem RS {us:List Ur}{ent:Int}{rw9:List Rl}{vs:List Vn}(hz:∀k,Sz 17179869184 (mJ (us.take k) ent)) (hu:∀u∈us,Sz 17179869184 u.n) (hl:us.length≤1073741823):aD false Tryz.prog 15 [] [.agg [.t (dB false rw9),.t (cW false false vs),.t (cJ false false us)],.one (tv (.int .i64 ent))] (aN (qF (.of (mJ us ent)))):=by
 refine cB Tryz.func15 rfl Tryz.ntmps15 rfl aA rfl fun N9 w9 c0 h0=>?_
 have h00:((0:Int):Rat)=(mJ (us.take 0) ent):=by simp[mJ,lU,mS]
 refine sq ?_;refine rl ?_;refine bx 0 ?_;refine al 1 ?_;refine nl ?_;refine sq ?_;refine rl ?_
 refine ca (iY (z:=0) (by omega) (by omega)) sS ⟨a1 rfl,rfl⟩ (qF (.of ((0:Int):Rat))) ?_
 refine al 2 ?_;refine st ?_;refine nl ?_;refine sq ?_;refine sq ?_;refine rl ?_;refine o1 ?_;refine ld ?_;refine o1 ?_;refine o1 ?_;refine nl ?_;refine bl ?_
 refine lp (γ:=Nat) (fun s=>cC [(1,.one (tv (.int .i64 ent))),(4,.one (.pt 0 0)),(5,.one (.pt 1 0)),(10,.one (.t (cJ false false us))),(11,.one (tv (.int .i64 ((us.length:Nat):Int)))),(12,.one (tv (.int .i64 ((s:Nat):Int))))]) (fun s=>[(⟨48,0,[tv (.bool false),tv (.slice none 0 0),tv (.bool false),tv (.slice none 0 0)]⟩:Ob),⟨48,0,((Fr4.of (mJ (us.take s) ent)).tr false).map .t⟩].map some) (fun s=>s≤us.length) (fun s=>us.length-s) 0 (Nat.zero_le _) (aU h0 [1,2] _ _ (by decide) ⟨rfl,rfl,rfl,rfl,rfl,rfl,trivial⟩ ⟨oe rfl rfl,aK (congrArg (fun q:Rat=>some (⟨48,0,((Fr4.of q).tr false).map .t⟩:Ob)) h00),rfl⟩) ?_
 rintro k hk;refine sq ?_;refine rl ?_;refine o1 ?_;refine nl ?_;refine sq ?_;refine bN rfl (fun h1=>?_) (fun h1=>?_)
 ·refine sk ?_;refine sq ?_;refine bl ?_;refine sq ?_;refine rl ?_;refine o1 ?_
  refine eB ((iN false) (dI us (k))) (bV (f:=(iN false)) (z:=7) (o:=0) (fE false) (fF (by omega)) (Nat.le_of_ble_eq_true rfl) rfl) ?_
  refine al 2 ?_;refine st ?_;refine nl ?_;refine sq ?_;refine rl ?_;refine o1 ?_;refine ld ?_;refine o1 ?_;refine o1 ?_;refine nl ?_;refine bN rfl (fun h2=>?_) (fun h2=>?_)
  ·refine rl ?_;refine ld ?_;refine o1 ?_;refine ld ?_
   refine ca (zR (Qn.of (p:=(mJ (us.take k) ent)) ((hz k).mono (M:=68719476736) (by omega))) (Qn.of (p:=(dI us (k)).n) ((hu _ (jM (l:=us) (i:=k) (by omega))).mono (M:=68719476736) (by omega)))) Gg ⟨aG rfl,aG rfl,rfl⟩ (qF (.of ((mJ (us.take k) ent)+(dI us (k)).n))) ?_
   refine st ?_;refine nl ?_;refine rl ?_;refine o1 ?_;refine WL.cast (t:=24) (u':=.int .i64 ((k+1:Nat):Int)) rfl (aC (by omega)) ?_
   refine o1 ?_;refine nl ?_;have hst:((mJ (us.take k) ent)+(dI us (k)).n)=(mJ (us.take (k+1)) ent):=by rw[BK (by omega),if_pos h2]
   exact⟨k+1,by omega,by omega,aU h0 [0,1] _ _ (by decide) ⟨rfl,rfl,rfl,rfl,rfl,rfl,trivial⟩ ⟨oe rfl rfl,aK (congrArg (fun q:Rat=>some (⟨48,0,((Fr4.of q).tr false).map .t⟩:Ob)) hst),rfl⟩⟩
  refine sk ?_;refine rl ?_;refine o1 ?_;refine WL.cast (t:=24) (u':=.int .i64 ((k+1:Nat):Int)) rfl (aC (by omega)) ?_
  refine o1 ?_;refine nl ?_;have hst:(mJ (us.take k) ent)=(mJ (us.take (k+1)) ent):=by rw[BK (by omega),if_neg h2]
  exact⟨k+1,by omega,by omega,aU h0 [0,1] _ _ (by decide) ⟨rfl,rfl,rfl,rfl,rfl,rfl,trivial⟩ ⟨oe rfl rfl,aK (congrArg (fun q:Rat=>some (⟨48,0,((Fr4.of q).tr false).map .t⟩:Ob)) hst),rfl⟩⟩
 refine ex ?_;refine sq ?_;refine rl ?_;refine ld ?_;refine st ?_;refine nl ?_;refine rt ?_
 exact en (.inl rfl) rfl (aX (.agg (.cons (.id rfl) (.cons (.id rfl) (.cons (.id rfl) (.cons (.id rfl) .nil)))))) (by decide) (fun h=>by cases h) (by rw[List.take_of_length_le (by omega)];rfl)
def eK (fw:Int) (ys:List Yr):Int:=if decide (fw<0)||(decide (40<fw)|| ys.any fun y=> !gR y (aP ys 0).m.length)then 2 else if 40<ys.length then 3 else 0
theorem Xq {fw:Int}{ys:List Yr}(hb:∀y∈ys,(∀a∈y.b,a.ok)∧y.l.ok∧y.b.length≤1073741823) (hl:ys.length≤1073741823) (hno:eK fw ys≠0):aD false Tryz.prog 12 [] [.one (tv (.int .i64 fw)),.one (.t (kH ys))] (aN (.tup [.agg [.t (dB true []),.t (cW true false []),.t (cJ true false [])],.one (tv (.int .i64 (eK fw ys)))])):=by
 refine cB Tryz.func12 rfl Tryz.ntmps12 rfl aA rfl fun N9 w9 c0 h0=>?_
 refine sq ?_;refine rl ?_;refine al 0 ?_;refine o1 ?_;refine nl ?_;refine sq ?_;refine rl ?_;refine al 1 ?_;refine st ?_;refine nl ?_
 refine md (γ:=Unit) (fun _=>cC [(0,.one (tv (.int .i64 fw))),(1,.one (.t (kH ys))),(4,.one (.pt 0 0)),(6,.one (.pt 1 0))]) (fun _=>([⟨39,0,[tv (.slice none 0 0),tv (.slice none 0 0),tv (.slice none 0 0)]⟩,⟨3,0,[tv (.int .i64 (((aP ys 0).m.length:Nat):Int))]⟩]:List Ob).map some) (fun _=>True) ?_ fun _ _=>?_
 ·refine sq ?_;refine rl ?_;(iterate 3 refine o1 ?_);refine nl ?_;refine bN rfl (fun h1=>?_) (fun h1=>?_)
  ·refine rl ?_;(iterate 3 refine o1 ?_);refine eB ([gQ (aP ys (0)).m]) (bV (f:=yrt) (z:=6) (o:=0) fP (eS (by omega)) (Nat.le_of_ble_eq_true rfl) rfl) ?_
   refine o1 ?_;refine st ?_;refine nl ?_;exact⟨(),trivial,aU h0 [0,1] _ _ (by decide) ⟨rfl,rfl,rfl,rfl,trivial⟩ ⟨oe rfl rfl,oe rfl rfl,rfl⟩⟩
  refine sk ?_
  exact⟨(),trivial,aU h0 [0,1] _ _ (by decide) ⟨rfl,rfl,rfl,rfl,trivial⟩ ⟨oe rfl rfl,oe rfl (by have h9:ys=[]:=(List.eq_nil_of_length_eq_zero (by omega));subst h9;rfl),rfl⟩⟩
 refine sq ?_;refine bl ?_;refine sq ?_;refine WP.sub (Dj (i:=6) (k:=1) (t:=3) (l:=[.v (.int .i64 (((aP ys 0).m.length:Nat):Int))]) rfl rfl rfl (.one .sl)) ?_;refine rl ?_
 (iterate 3 refine o1 ?_);refine WL.split (t:=25) rfl (fun h2=>?_) (fun h2=>?_)
 ·refine dM ?_;refine dM ?_;refine o1 ?_;refine o1 ?_;(iterate 3 refine dM ?_);refine o1 ?_;refine o1 ?_;refine nl ?_;refine iL rfl ?_;refine sq ?_;refine rl ?_;refine o1 ?_
  refine st ?_;refine o1 ?_;refine nl ?_;refine rt ?_
  exact en (.inl rfl) rfl (uE (.cons (.agg (.cons (.nil (t:=62) (z:=5)) (.cons (.nil (t:=64) (z:=18)) (.cons (.nil (t:=58) (z:=7)) .nil)))) (.cons (cN _) .nil))) (by decide) (fun h=>by cases h) (congrArg (fun z:Int=>FV.tup [.agg [.t (dB true []),.t (cW true false []),.t (cJ true false [])],.one (tv (.int .i64 z))]) (by simp only[eK,decide_eq_true h2,Bool.not_true,Bool.not_false,Bool.or_true,Bool.true_or,Bool.false_or,Bool.or_false,Bool.false_eq_true,if_true,if_false,ite_true,ite_false,Bool.and_true,Bool.true_and,Bool.false_and,Bool.and_false,Bool.not_not] <;> first | rfl | (simp;done) | (simp;omega)))
 (iterate 4 refine o1 ?_);refine WL.split (t:=29) rfl (fun h3=>?_) (fun h3=>?_)
 ·(iterate 3 refine dM ?_);refine o1 ?_;refine o1 ?_;refine nl ?_;refine iL rfl ?_;refine sq ?_;refine rl ?_;refine o1 ?_;refine st ?_;refine o1 ?_;refine nl ?_;refine rt ?_
  exact en (.inl rfl) rfl (uE (.cons (.agg (.cons (.nil (t:=62) (z:=5)) (.cons (.nil (t:=64) (z:=18)) (.cons (.nil (t:=58) (z:=7)) .nil)))) (.cons (cN _) .nil))) (by decide) (fun h=>by cases h) (congrArg (fun z:Int=>FV.tup [.agg [.t (dB true []),.t (cW true false []),.t (cJ true false [])],.one (tv (.int .i64 z))]) (by simp only[eK,decide_eq_false h2,decide_eq_true h3,Bool.not_true,Bool.not_false,Bool.or_true,Bool.true_or,Bool.false_or,Bool.or_false,Bool.false_eq_true,if_true,if_false,ite_true,ite_false,Bool.and_true,Bool.true_and,Bool.false_and,Bool.and_false,Bool.not_not] <;> first | rfl | (simp;done) | (simp;omega)))
 refine o1 ?_;refine o1 ?_
 refine ca (AX (xs:=ys) (dl:=(fun y=> !gR y (aP ys 0).m.length)) (fd:=36) (fst:=[]) (caps:=[.p false 3 [.v (.int .i64 (((aP ys 0).m.length:Nat):Int))]]) KN (fun y hy=>Rp (hb y hy).1 (hb y hy).2.1 (hb y hy).2.2) hl) KO ⟨a1 rfl,a1 rfl,rfl⟩ (.one (tv (.bool (ys.any (fun y=> !gR y (aP ys 0).m.length))))) ?_
 refine o1 ?_;refine o1 ?_;refine nl ?_;refine nK rfl (fun h4=>?_) (fun h4=>?_)
 ·refine sq ?_;refine rl ?_;refine o1 ?_;refine st ?_;refine o1 ?_;refine nl ?_;refine rt ?_
  exact en (.inl rfl) rfl (uE (.cons (.agg (.cons (.nil (t:=62) (z:=5)) (.cons (.nil (t:=64) (z:=18)) (.cons (.nil (t:=58) (z:=7)) .nil)))) (.cons (cN _) .nil))) (by decide) (fun h=>by cases h) (congrArg (fun z:Int=>FV.tup [.agg [.t (dB true []),.t (cW true false []),.t (cJ true false [])],.one (tv (.int .i64 z))]) (by simp only[eK,decide_eq_false h2,decide_eq_false h3,h4,Bool.not_true,Bool.not_false,Bool.or_true,Bool.true_or,Bool.false_or,Bool.or_false,Bool.false_eq_true,if_true,if_false,ite_true,ite_false,Bool.and_true,Bool.true_and,Bool.false_and,Bool.and_false,Bool.not_not] <;> first | rfl | (simp;done) | (simp;omega)))
 refine sq ?_;refine rl ?_;(iterate 4 refine o1 ?_);refine nl ?_;refine bN rfl (fun h5=>?_) (fun h5=>?_)
 ·refine sq ?_;refine rl ?_;refine o1 ?_;refine st ?_;refine o1 ?_;refine nl ?_;refine rt ?_
  exact en (.inl rfl) rfl (uE (.cons (.agg (.cons (.nil (t:=62) (z:=5)) (.cons (.nil (t:=64) (z:=18)) (.cons (.nil (t:=58) (z:=7)) .nil)))) (.cons (cN _) .nil))) (by decide) (fun h=>by cases h) (congrArg (fun z:Int=>FV.tup [.agg [.t (dB true []),.t (cW true false []),.t (cJ true false [])],.one (tv (.int .i64 z))]) (by simp only[eK,decide_eq_false h2,decide_eq_false h3,h4,decide_eq_true h5,Bool.not_true,Bool.not_false,Bool.or_true,Bool.true_or,Bool.false_or,Bool.or_false,Bool.false_eq_true,if_true,if_false,ite_true,ite_false,Bool.and_true,Bool.true_and,Bool.false_and,Bool.and_false,Bool.not_not] <;> first | rfl | (simp;done) | (simp;omega)))
 refine sk ?_
 exact absurd (show eK fw ys=0 by unfold eK;simp only[decide_eq_false h2,decide_eq_false h3,h4,decide_eq_false h5,Bool.not_true,Bool.not_false,Bool.or_true,Bool.true_or,Bool.false_or,Bool.or_false,Bool.false_eq_true,if_true,if_false,ite_true,ite_false,Bool.and_true,Bool.true_and,Bool.false_and,Bool.and_false,Bool.not_not] <;> first | rfl | (simp;done) | (simp;omega)) hno
def Rg.cl (R:Rg) (U:List Ur) (n y e:Nat):Rat:=if n≤y+R.f then R.left U y e else 0
def Rg.clk (R:Rg) (U:List Ur) (n q k y e:Nat):Rat:=if e<q∨(e=q∧(((R.wl U q (R.I n)).take k).any fun x=>decide (x.1=(y:Int)))=true)then R.cl U n y e else 0
def Rg.vnE (R:Rg) (n:Nat):List Vn:=R.vns (R.run n) (R.ex (R.run n) n) (R.cl (R.run n) n) (R.vl n)
section
variable {R:Rg}{U:List Ur}{N n q k y e j:Nat}
theorem Xr:R.clk U n 0 0=fun _ _=>0:=by
 funext y e
 unfold Rg.clk
 rw[if_neg (by simp)]
theorem Xs:R.clk U n (q+1) 0 y e=if e≤q then R.cl U n y e else 0:=by
 unfold Rg.clk
 by_cases h:e≤q
 ·rw[if_pos h,if_pos (.inl (by omega))]
 rw[if_neg h,if_neg (by simp;omega)]
theorem Xt (hI:R.Iv n U) (hk:(R.wl U q (R.I n)).length≤k) (hq:q<R.E) (hy:y<n):R.clk U n q k y e=R.clk U n (q+1) 0 y e:=by
 rw[Xs]
 unfold Rg.clk
 rw[List.take_of_length_le hk]
 by_cases h:e<q
 ·rw[if_pos (.inl h),if_pos (by omega)]
 by_cases h2:e=q
 ·subst h2
  rw[if_pos (Nat.le_refl e)]
  split
  ·rfl
  rename_i h3
  have h4:¬((R.wl U e (R.I n)).any fun x=>decide (x.1=(y:Int)))=true:=fun h5=>h3 (.inr ⟨rfl,h5⟩)
  unfold Rg.cl
  split
  ·rename_i h5
   have h6:=(hI.v y e hy hq).1.1
   by_cases h7:0<R.left U y e
   ·exact absurd (List.any_eq_true.2 ⟨((y:Int),R.left U y e),hG.2 ⟨y,jD.2 ⟨hy,h5⟩,rfl,h7⟩,by simp⟩) h4
   grind
  rfl
 rw[if_neg (by simp;omega),if_neg (by omega)]
theorem Xu (he:e<R.E):R.clk U n R.E 0 y e=R.cl U n y e:=if_pos (.inl he)
theorem PF (hk:k<(R.wl U q (R.I n)).length):∃j:Nat,aI (R.wl U q (R.I n)) k=((j:Int),R.left U j q)∧0<R.left U j q∧j<n∧n≤j+R.f:=by
 obtain⟨i,hi,hx,h0⟩:=hG.1 (mR hk)
 have:=jD.1 hi
 exact⟨i,hx,h0,this.1,this.2⟩
theorem ET (hk:k<(R.wl U q (R.I n)).length) (hx:aI (R.wl U q (R.I n)) k=((j:Int),R.left U j q)) (hj:n≤j+R.f):R.clk U n q (k+1) j q=R.left U j q:=by
 unfold Rg.clk Rg.cl
 rw[kN hk,hx,if_pos (.inr ⟨rfl,by simp⟩),if_pos hj]
theorem Xv (hk:k<(R.wl U q (R.I n)).length) (hx:aI (R.wl U q (R.I n)) k=((j:Int),R.left U j q)) (hne:¬(y=j∧e=q)):R.clk U n q k y e=R.clk U n q (k+1) y e:=by
 unfold Rg.clk
 rw[kN hk,hx,List.any_append]
 by_cases h:e=q
 ·have h2:¬(j:Int)=(y:Int):=by omega
  have h3:List.any [((j:Int),R.left U j q)] (fun x=>decide (x.1=(y:Int)))=false:=by
   rw[List.any_cons,List.any_nil,Bool.or_false]
   exact decide_eq_false h2
  rw[h3,Bool.or_false]
 simp[h]
theorem Hf {x c x' c':Nat→Nat→Rat}{L:List (Nat×Nat)}(h:∀p∈L,x p.1 p.2=x' p.1 p.2∧c p.1 p.2=c' p.1 p.2):R.vns U x c L=R.vns U x' c' L:=List.map_congr_left fun p hp=>by
 unfold Rg.vn
 rw[(h p hp).1,(h p hp).2]
end
theorem Sq {a:Fr4}(ha:a.ok) (h:La a=true):a=Fr4.of a.q:=(Qn.right (⟨ha,rfl⟩:Qn a a.q) h).symm
theorem Xw {fw:Int}{ys:List Yr}(hb:∀y∈ys,(∀a∈y.b,a.ok)∧y.l.ok) (h:eK fw ys=0):0≤fw∧fw≤40∧ys.length≤40∧∀y∈ys,y.m.length=(aP ys 0).m.length∧y.b.length=(aP ys 0).m.length∧(∀a∈y.b,a=Fr4.of a.q)∧y.l=Fr4.of y.l.q∧0≤y.l.q:=by
 unfold eK at h
 split at h
 ·cases h
 rename_i h1
 split at h
 ·cases h
 rename_i h2
 simp only[Bool.or_eq_true,decide_eq_true_eq,not_or]at h1
 refine⟨by omega,by omega,by omega,fun y hy=>?_⟩
 have h3:=h1.2.2
 rw[Bool.not_eq_true,List.any_eq_false]at h3
 have h4:=h3 y hy
 simp only[Bool.not_eq_true,Bool.not_eq_false']at h4
 unfold gR at h4
 simp only[Bool.and_eq_true,decide_eq_true_eq,Bool.not_eq_true']at h4
 obtain⟨a1,a2,a3,a4,a5⟩:=h4
 rw[List.any_eq_false]at a3
 exact⟨by omega,by omega,fun a ha=>Sq ((hb y hy).1 a ha) (by simpa using a3 a ha),Sq (hb y hy).2 a4,by
  rcases Rat.le_total (a:=0) (b:=y.l.q)with h5 | h5
  ·exact h5
  rcases Rat.le_iff_lt_or_eq.1 h5 with h6 | h6
  ·have:=(yG y.l.q).2 h6
   omega
  rw[h6];exact Rat.le_refl⟩
def mT (k:Nat):List (List (Int×Rat)×Int×Bool):=List.replicate k ([],0,false)
theorem tA {k:Nat}:(mT k).length=k:=List.length_replicate ..
theorem rN {k:Nat}:(((mT k).map dN).map AV.t).length=k:=by rw[List.length_map,List.length_map,tA]
theorem KP {k:Nat}{a:AV}:(((mT k).map dN).map AV.t++[a])[k]? =some a:=by
 rw[List.getElem?_append_right (by rw[rN];exact Nat.le_refl k),rN,Nat.sub_self]
 rfl
theorem EU {k:Nat}{a:AV}:(((mT k).map dN).map AV.t++[a]).set k (.t (dN ([],0,false)))=((mT (k+1)).map dN).map .t:=by
 rw[List.set_append_right _ _ (by rw[rN];exact Nat.le_refl k),rN,Nat.sub_self]
 unfold mT
 rw[List.replicate_succ']
 simp
theorem Xx {R:Rg}:dH (R.own (R.run 0) (R.I 0) 0)=.s true 96 1 R.E ((mT R.E).map dN):=by
 have h:R.own (R.run 0) (R.I 0) 0=mT R.E:=by
  have h1:R.own (R.run 0) (R.I 0) 0=(List.range R.E).map fun _=>(([]:List (Int×Rat)),(0:Int),false):=by
   have h0:R.I 0=[]:=by unfold Rg.I;rw[Nat.zero_sub];rfl
   rw[h0]
   rfl
  rw[h1,List.map_const',List.length_range]
  rfl
 rw[h,dH,tA]
theorem EV {R:Rg}{ys:List Yr}(hb:∀y∈ys,(∀a∈y.b,a.ok)∧y.l.ok∧y.b.length≤1073741823) (hno:eK ((R.f:Nat):Int) ys=0) (hE9:(aP ys 0).m.length=R.E) (hOk:R.Ok ys.length) (hyq:∀t,t<ys.length→yrt (aP ys t)=R.yrq t):aD false Tryz.prog 12 [] [.one (tv (.int .i64 ((R.f:Nat):Int))),.one (.t (kH ys))] (aN (.tup [.agg [.t (dB true (R.rls (R.run ys.length) ys.length)),.t (cW true false (R.vnE ys.length)),.t (cJ true false (R.run ys.length))],.one (tv (.int .i64 0))])):=by
 refine cB Tryz.func12 rfl Tryz.ntmps12 rfl aA rfl fun N9 w9 c0 h0=>?_
 have hl:ys.length≤1073741823:=by have:=hOk.n;omega
 have hE6:=hOk.e;have hN:=hOk.n;have hF:=hOk.f
 refine sq ?_;refine rl ?_;refine al 0 ?_;refine o1 ?_;refine nl ?_;refine sq ?_;refine rl ?_;refine al 1 ?_;refine st ?_;refine nl ?_
 refine md (γ:=Unit) (fun _=>cC [(0,.one (tv (.int .i64 ((R.f:Nat):Int)))),(1,.one (.t (kH ys))),(4,.one (.pt 0 0)),(6,.one (.pt 1 0))]) (fun _=>([⟨39,0,[tv (.slice none 0 0),tv (.slice none 0 0),tv (.slice none 0 0)]⟩,⟨3,0,[tv (.int .i64 (((aP ys 0).m.length:Nat):Int))]⟩]:List Ob).map some) (fun _=>True) ?_ fun _ _=>?_
 ·refine sq ?_;refine rl ?_;(iterate 3 refine o1 ?_);refine nl ?_;refine bN rfl (fun h1=>?_) (fun h1=>?_)
  ·refine rl ?_;(iterate 3 refine o1 ?_);refine eB ([gQ (aP ys (0)).m]) (bV (f:=yrt) (z:=6) (o:=0) fP (eS (by omega)) (Nat.le_of_ble_eq_true rfl) rfl) ?_
   refine o1 ?_;refine st ?_;refine nl ?_;exact⟨(),trivial,aU h0 [0,1] _ _ (by decide) ⟨rfl,rfl,rfl,rfl,trivial⟩ ⟨oe rfl rfl,oe rfl rfl,rfl⟩⟩
  refine sk ?_
  exact⟨(),trivial,aU h0 [0,1] _ _ (by decide) ⟨rfl,rfl,rfl,rfl,trivial⟩ ⟨oe rfl rfl,oe rfl (by have h9:ys=[]:=(List.eq_nil_of_length_eq_zero (by omega));subst h9;rfl),rfl⟩⟩
 refine sq ?_;refine bl ?_;refine sq ?_;refine WP.sub (Dj (i:=6) (k:=1) (t:=3) (l:=[.v (.int .i64 (((aP ys 0).m.length:Nat):Int))]) rfl rfl rfl (.one .sl)) ?_;refine rl ?_
 (iterate 3 refine o1 ?_);refine WL.split (t:=25) rfl (fun h2=>?_) (fun h2=>?_)
 ·refine dM ?_;refine dM ?_;refine o1 ?_;refine o1 ?_;(iterate 3 refine dM ?_);refine o1 ?_;refine o1 ?_;refine nl ?_;refine iL rfl ?_;refine sq ?_;refine rl ?_;refine o1 ?_
  refine st ?_;refine o1 ?_;refine nl ?_;refine rt ?_
  exact absurd (hno.symm.trans (show eK ((R.f:Nat):Int) ys=2 by simp only[eK,decide_eq_true h2,Bool.not_true,Bool.not_false,Bool.or_true,Bool.true_or,Bool.false_or,Bool.or_false,Bool.false_eq_true,if_true,if_false,ite_true,ite_false,Bool.and_true,Bool.true_and,Bool.false_and,Bool.and_false,Bool.not_not] <;> first | rfl | (simp;done) | (simp;omega))) (by decide)
 (iterate 4 refine o1 ?_);refine WL.split (t:=29) rfl (fun h3=>?_) (fun h3=>?_)
 ·(iterate 3 refine dM ?_);refine o1 ?_;refine o1 ?_;refine nl ?_;refine iL rfl ?_;refine sq ?_;refine rl ?_;refine o1 ?_;refine st ?_;refine o1 ?_;refine nl ?_;refine rt ?_
  exact absurd (hno.symm.trans (show eK ((R.f:Nat):Int) ys=2 by simp only[eK,decide_eq_false h2,decide_eq_true h3,Bool.not_true,Bool.not_false,Bool.or_true,Bool.true_or,Bool.false_or,Bool.or_false,Bool.false_eq_true,if_true,if_false,ite_true,ite_false,Bool.and_true,Bool.true_and,Bool.false_and,Bool.and_false,Bool.not_not] <;> first | rfl | (simp;done) | (simp;omega))) (by decide)
 refine o1 ?_;refine o1 ?_
 refine ca (AX (xs:=ys) (dl:=(fun y=> !gR y (aP ys 0).m.length)) (fd:=36) (fst:=[]) (caps:=[.p false 3 [.v (.int .i64 (((aP ys 0).m.length:Nat):Int))]]) KN (fun y hy=>Rp (hb y hy).1 (hb y hy).2.1 (hb y hy).2.2) hl) KO ⟨a1 rfl,a1 rfl,rfl⟩ (.one (tv (.bool (ys.any (fun y=> !gR y (aP ys 0).m.length))))) ?_
 refine o1 ?_;refine o1 ?_;refine nl ?_;refine nK rfl (fun h4=>?_) (fun h4=>?_)
 ·refine sq ?_;refine rl ?_;refine o1 ?_;refine st ?_;refine o1 ?_;refine nl ?_;refine rt ?_
  exact absurd (hno.symm.trans (show eK ((R.f:Nat):Int) ys=2 by simp only[eK,decide_eq_false h2,decide_eq_false h3,h4,Bool.not_true,Bool.not_false,Bool.or_true,Bool.true_or,Bool.false_or,Bool.or_false,Bool.false_eq_true,if_true,if_false,ite_true,ite_false,Bool.and_true,Bool.true_and,Bool.false_and,Bool.and_false,Bool.not_not] <;> first | rfl | (simp;done) | (simp;omega))) (by decide)
 refine sq ?_;refine rl ?_;(iterate 4 refine o1 ?_);refine nl ?_;refine bN rfl (fun h5=>?_) (fun h5=>?_)
 ·refine sq ?_;refine rl ?_;refine o1 ?_;refine st ?_;refine o1 ?_;refine nl ?_;refine rt ?_
  exact absurd (hno.symm.trans (show eK ((R.f:Nat):Int) ys=3 by simp only[eK,decide_eq_false h2,decide_eq_false h3,h4,decide_eq_true h5,Bool.not_true,Bool.not_false,Bool.or_true,Bool.true_or,Bool.false_or,Bool.or_false,Bool.false_eq_true,if_true,if_false,ite_true,ite_false,Bool.and_true,Bool.true_and,Bool.false_and,Bool.and_false,Bool.not_not] <;> first | rfl | (simp;done) | (simp;omega))) (by decide)
 refine sk ?_;refine sq ?_;refine rl ?_;refine o1 ?_;refine bx 2 ?_;refine o1 ?_;refine nl ?_;refine sq ?_;refine sq ?_;refine WP.sub (Gd (i:=6) rfl rfl) ?_
 refine WP.sub ((Le (j:=2) (key:=3) (e:=62) (z:=5) rfl rfl rfl (.sl (.id (.id (.id .nil))))).trans (iO (j:=2) (k:=3) (p:=0) (e:=62) (z:=5) (n:=0) (trs:=[]) rfl rfl rfl rfl rfl rfl rfl rfl)) ?_
 refine WP.sub ((Le (j:=2) (key:=4) (e:=64) (z:=18) rfl rfl rfl (.id (.sl (.id (.id .nil))))).trans (iO (j:=2) (k:=4) (p:=1) (e:=64) (z:=18) (n:=0) (trs:=[]) rfl rfl rfl rfl rfl rfl rfl rfl)) ?_
 refine WP.sub ((Le (j:=2) (key:=5) (e:=58) (z:=7) rfl rfl rfl (.id (.id (.sl (.id .nil))))).trans (iO (j:=2) (k:=5) (p:=2) (e:=58) (z:=7) (n:=0) (trs:=[]) rfl rfl rfl rfl rfl rfl rfl rfl)) ?_
 refine WP.sub (Le (j:=2) (key:=6) (e:=96) (z:=1) rfl rfl rfl (.id (.id (.id (.sl .nil))))) ?_;refine rl ?_
 refine eB ([.v (.int .i64 (((aP ys 0).m.length:Nat):Int))]) rfl ?_;refine WL.cast (t:=42) (u':=.int .i64 ((R.E:Nat):Int)) rfl (aC (by rw[hE9])) ?_
 refine o1 ?_;refine nl ?_;refine bl ?_
 refine lp (γ:=Nat) (fun s=>cC [(0,.one (tv (.int .i64 ((R.f:Nat):Int)))),(1,.one (.t (kH ys))),(4,.one (.pt 0 0)),(7,.one (.pt 1 0)),(42,.one (tv (.int .i64 ((R.E:Nat):Int)))),(43,.one (tv (.int .i64 ((s:Nat):Int))))]) (fun s=>[(⟨39,0,[tv (.slice none 0 0),tv (.slice none 0 0),tv (.slice none 0 0)]⟩:Ob),⟨95,0,[.t (dB true (R.rls (R.run 0) 0)),.t (cW true false (R.vns (R.run 0) (R.ex (R.run 0) 0) (fun _ _=>(0:Rat)) (R.vl 0))),.t (cJ true false (R.run 0)),.sl 2 0 s]⟩,⟨96,1,((mT s).map dN).map .t⟩].map some) (fun s=>s≤R.E) (fun s=>R.E-s) 0 (Nat.zero_le _) (aU h0 [0,2,6] _ _ (by decide) ⟨rfl,rfl,rfl,rfl,rfl,rfl,trivial⟩ ⟨oe rfl rfl,oe rfl rfl,aK rfl,rfl⟩) ?_
 rintro k hk;refine sq ?_;refine rl ?_;refine o1 ?_;refine nl ?_;refine sq ?_;refine bN rfl (fun h6=>?_) (fun h6=>?_)
 ·refine sk ?_;refine sq ?_;refine bl ?_;refine rd [0,1] (fun i=>[8,9,10].contains i) mixed ?_
  refine dv 0 ?_;refine dv 1 ?_;refine dv 2 ?_;refine dv 3 ?_;refine aO 4 ?_;refine lG 3 5 rfl (OL) RT rfl ?_
  refine kV (key:=4) 6 (by kernel_rfl) rfl rfl aA rfl ⟨rfl,rfl,trivial⟩ ?_
  refine nQ (j:=5) (n:=k) (l:=((mT k).map dN).map .t) 7 rfl aA rfl rfl rfl (.sl rfl (by rw[rN,Nat.mul_one])) (.sl rfl rfl rfl) rfl rfl (by omega) (by omega) rfl ⟨rfl,rfl,trivial⟩ rfl (by kernel_rfl) rfl ?_
  refine eT 8 (by kernel_rfl) rfl rfl aA rfl (by trivial) ?_ (fun h=>by first | rfl | cases h)
  refine eT 9 (by kernel_rfl) rfl rfl aA rfl (by trivial) ?_ (fun h=>by first | rfl | cases h)
  refine dst 10 ?_;refine aQ ?_
  refine WP.sub (Bo (j:=5) (k:=3) (p:=k) (e:=137) (trs:=[sR 102 [],.v (.int .i64 0),.v (.bool false)]) (l':=((mT (k+1)).map dN).map .t) rfl rfl rfl KP EU) ?_
  refine rl ?_;refine o1 ?_;refine WL.cast (t:=55) (u':=.int .i64 ((k+1:Nat):Int)) rfl (aC (by omega)) ?_
  refine o1 ?_;refine nl ?_;exact⟨k+1,by omega,by omega,aU h0 [0,1,5] _ _ (by decide) ⟨rfl,rfl,rfl,rfl,rfl,rfl,trivial⟩ ⟨oe rfl rfl,oe rfl rfl,aK rfl,rfl⟩⟩
 refine ex ?_;refine sq ?_;refine sq ?_;have hkE:k=R.E:=by omega
 subst hkE
 refine WP.sub (iO (j:=1) (k:=2) (p:=3) (e:=96) (z:=1) (n:=R.E) (trs:=(mT R.E).map dN) rfl rfl rfl rfl rfl (bZ _ _ (by rw[List.length_map,tA,Nat.mul_one])) (by rw[List.length_map,tA,Nat.mul_one]) rfl) ?_
 refine rl ?_;(iterate 3 refine o1 ?_);refine nl ?_;refine bl ?_
 refine lp (γ:=Nat) (fun s=>cC [(0,.one (tv (.int .i64 ((R.f:Nat):Int)))),(4,.one (.pt 0 0)),(7,.one (.pt 1 0)),(56,.one (.t (kH ys))),(57,.one (tv (.int .i64 ((ys.length:Nat):Int)))),(58,.one (tv (.int .i64 ((s:Nat):Int))))]) (fun s=>[(⟨39,0,[tv (.slice none 0 0),tv (.slice none 0 0),tv (.slice none 0 0)]⟩:Ob),⟨95,0,[.t (dB true (R.rls (R.run s) s)),.t (cW true false (R.vns (R.run s) (R.ex (R.run s) s) (fun _ _=>(0:Rat)) (R.vl s))),.t (cJ true false (R.run s)),.t (dH (R.own (R.run s) (R.I s) s))]⟩].map some) (fun s=>s≤ys.length) (fun s=>ys.length-s) 0 (Nat.zero_le _) (aU h0 [0,1] _ _ (by decide) ⟨rfl,rfl,rfl,rfl,rfl,rfl,trivial⟩ ⟨oe rfl rfl,oe rfl (by have h9:(some ⟨95,0,[.t (dB true (R.rls (R.run 0) 0)),.t (cW true false (R.vns (R.run 0) (R.ex (R.run 0) 0) (fun _ _=>(0:Rat)) (R.vl 0))),.t (cJ true false (R.run 0)),.t (.s true 96 1 R.E ((mT R.E).map dN))]⟩:Option Ob)=some ⟨95,0,[.t (dB true (R.rls (R.run 0) 0)),.t (cW true false (R.vns (R.run 0) (R.ex (R.run 0) 0) (fun _ _=>(0:Rat)) (R.vl 0))),.t (cJ true false (R.run 0)),.t (dH (R.own (R.run 0) (R.I 0) 0))]⟩:=(by rw[Xx]);exact h9),rfl⟩) ?_
 rintro t ht;refine sq ?_;refine rl ?_;refine o1 ?_;refine nl ?_;refine sq ?_;refine bN rfl (fun h7=>?_) (fun h7=>?_)
 ·refine sk ?_;refine sq ?_;refine bl ?_;refine sq ?_;refine rl ?_;refine o1 ?_;refine o1 ?_
  refine eB (R.yrq t) ((by rw[←hyq t (by omega)];exact(bV (f:=yrt) (z:=6) (o:=0) fP (eS (by omega)) (Nat.le_of_ble_eq_true rfl) rfl))) ?_
  refine al 2 ?_;refine o1 ?_;refine st ?_;refine nl ?_;refine rl ?_;(iterate 3 refine o1 ?_);refine ld ?_
  refine cl 3 [1] (KH (t:=t) hOk (by omega)) RU ⟨oe rfl rfl,rfl⟩ ⟨rfl,rfl,rfl,rfl,rfl⟩ (ok:=[some ⟨95,0,[.t (dB true (R.rls (R.run (t+1)) (t+1))),.t (cW true false (R.vns (R.run (t+1)) (R.ex (R.run (t+1)) (t+1)) (fun _ _=>(0:Rat)) (R.vl (t+1)))),.t (cJ true false (R.run (t+1))),.t (dH (R.own (R.run (t+1)) (R.I (t+1)) (t+1)))]⟩]) ⟨oe rfl rfl,rfl⟩ ?_
  refine nl ?_;refine rl ?_;refine o1 ?_;refine WL.cast (t:=68) (u':=.int .i64 ((t+1:Nat):Int)) rfl (aC (by omega)) ?_
  refine o1 ?_;refine nl ?_;exact⟨t+1,by omega,by omega,aU h0 [0,1] _ _ (by decide) ⟨rfl,rfl,rfl,rfl,rfl,rfl,trivial⟩ ⟨oe rfl rfl,oe rfl rfl,rfl⟩⟩
 refine ex ?_;refine sq ?_;refine sq ?_;have htt:t=ys.length:=by omega
 subst htt;have hIv:=hOk.run (Nat.le_refl ys.length)
 have hvl9:=rL (R:=R) hE6 ys.length
 have hck0:(R.vns (R.run ys.length) (R.ex (R.run ys.length) ys.length) (fun _ _=>(0:Rat)) (R.vl ys.length))=(R.vns (R.run ys.length) (R.ex (R.run ys.length) ys.length) (R.clk (R.run ys.length) ys.length 0 0) (R.vl ys.length)):=by rw[Xr]
 refine WP.sub (nN (j:=1) (key:=2) (p:=1) (e:=64) (z:=18) (n:=(R.vns (R.run ys.length) (R.ex (R.run ys.length) ys.length) (fun _ _=>(0:Rat)) (R.vl ys.length)).length) (trs:=(R.vns (R.run ys.length) (R.ex (R.run ys.length) ys.length) (fun _ _=>(0:Rat)) (R.vl ys.length)).flatMap (eF false)) rfl rfl rfl rfl rfl) ?_
 refine WP.sub (nN (j:=1) (key:=3) (p:=3) (e:=96) (z:=1) (n:=(R.own (R.run ys.length) (R.I ys.length) ys.length).length) (trs:=(R.own (R.run ys.length) (R.I ys.length) ys.length).map dN) rfl rfl rfl rfl rfl) ?_
 refine rl ?_;(iterate 3 refine o1 ?_);refine ld ?_;refine o1 ?_;refine o1 ?_;refine nl ?_;refine bl ?_
 refine lp (γ:=Nat) (fun s=>cC [(4,.one (.pt 0 0)),(7,.one (.pt 1 0)),(72,.one (.sl 3 0 (R.E))),(73,.one (tv (.int .i64 ((R.E:Nat):Int)))),(74,.one (tv (.int .i64 ((s:Nat):Int))))]) (fun s=>[(⟨39,0,[tv (.slice none 0 0),tv (.slice none 0 0),tv (.slice none 0 0)]⟩:Ob),⟨95,0,[.t (dB true (R.rls (R.run ys.length) ys.length)),.sl 2 0 (R.vl ys.length).length,.t (cJ true false (R.run ys.length)),.sl 3 0 R.E]⟩,⟨64,18,((R.vns (R.run ys.length) (R.ex (R.run ys.length) ys.length) (R.clk (R.run ys.length) ys.length s 0) (R.vl ys.length)).flatMap (eF false)).map .t⟩,⟨96,1,((R.own (R.run ys.length) (R.I ys.length) ys.length).map dN).map .t⟩].map some) (fun s=>s≤R.E) (fun s=>R.E-s) 0 (Nat.zero_le _) (aU h0 [0,1,2,3] _ _ (by decide) ⟨rfl,rfl,(by rw[jF];rfl),Gb (by rw[jF]),rfl,trivial⟩ ⟨oe rfl rfl,oe rfl (by have h9:(some ⟨95,0,[.t (dB true (R.rls (R.run ys.length) ys.length)),.sl 2 0 (R.vns (R.run ys.length) (R.ex (R.run ys.length) ys.length) (fun _ _=>(0:Rat)) (R.vl ys.length)).length,.t (cJ true false (R.run ys.length)),.sl 3 0 (R.own (R.run ys.length) (R.I ys.length) ys.length).length]⟩:Option Ob)=some ⟨95,0,[.t (dB true (R.rls (R.run ys.length) ys.length)),.sl 2 0 (R.vl ys.length).length,.t (cJ true false (R.run ys.length)),.sl 3 0 R.E]⟩:=(by rw[eL,jF]);exact h9),aK (congrArg (fun l:List Vn=>some (⟨64,18,(l.flatMap (eF false)).map .t⟩:Ob)) hck0),aK rfl,rfl⟩) ?_
 rintro q hq;refine sq ?_;refine rl ?_;refine o1 ?_;refine nl ?_;refine sq ?_;refine bN rfl (fun h8=>?_) (fun h8=>?_)
 ·refine sk ?_;refine sq ?_;refine bl ?_;refine sq ?_;have hq9:q<R.E:=by omega
  have hwl:=rK (R:=R) (U:=(R.run ys.length)) (e:=q) (I:=R.I ys.length)
  have hIl:=rJ (R:=R) (k:=ys.length)
  have hle9:cT (R.own (R.run ys.length) (R.I ys.length) ys.length) q=((R.wl (R.run ys.length) q (R.I ys.length)),(R.lp q ys.length).1,(R.lp q ys.length).2):=Bq hq9
  have hol9:(R.own (R.run ys.length) (R.I ys.length) ys.length).length=R.E:=jF
  have hzz:∀x∈(R.wl (R.run ys.length) q (R.I ys.length)),Sz 68719476736 x.2:=fun x hx=>by obtain⟨i,hi,rfl,_⟩:=hG.1 hx;exact(hIv.sz_left hOk (jD.1 hi).1 hq9).mono (by omega)
  refine WP.sub (Gu (j:=3) (key:=4) (p:=q) (e:=137) (trs:=[sR 102 (R.wl (R.run ys.length) q (R.I ys.length)),.v (.int .i64 (R.lp q ys.length).1),.v (.bool (R.lp q ys.length).2)]) rfl rfl (by rw[wQ (by omega),hle9];rfl) rfl) ?_
  refine rl ?_;refine o1 ?_;refine o1 ?_
  refine Kw (l:=(((R.own (R.run ys.length) (R.I ys.length) ys.length).map dN).map AV.t).set q (.pt 4 0)) (v:=.pt 4 0) (zQ (by rw[jP];omega)) ?_
  refine o1 ?_;refine o1 ?_;refine nl ?_;refine sq ?_;refine rl ?_;refine o1 ?_
  refine iS 5 (Rz (vs:=(R.wl (R.run ys.length) q (R.I ys.length))) (rest:=[.v (.int .i64 (R.lp q ys.length).1),.v (.bool (R.lp q ys.length).2)]) hzz (by omega)) JX ⟨uG rfl (.pe (trs:=[sR 102 (R.wl (R.run ys.length) q (R.I ys.length)),.v (.int .i64 (R.lp q ys.length).1),.v (.bool (R.lp q ys.length).2)]) rfl rfl rfl (by simp only[rdTL,rH,sR,sV,wP])),rfl⟩ ?_
  refine o1 ?_;refine o1 ?_;refine nl ?_;refine bl ?_
  refine WP.sub (JV (i:=80) (k:=5) (n:=(R.wl (R.run ys.length) q (R.I ys.length)).length) 102 rfl rfl rfl (bH true _) (wP true _) (.one .sl)) ?_
  refine WP.sub (Bo (j:=3) (k:=4) (p:=q) (e:=137) (trs:=[sR 102 (R.wl (R.run ys.length) q (R.I ys.length)),.v (.int .i64 (R.lp q ys.length).1),.v (.bool (R.lp q ys.length).2)]) (l':=((R.own (R.run ys.length) (R.I ys.length) ys.length).map dN).map .t) rfl rfl rfl (List.getElem?_set_self (by rw[jP];omega)) (Ll (x:=((R.wl (R.run ys.length) q (R.I ys.length)),(R.lp q ys.length).1,(R.lp q ys.length).2)) (by omega) hle9)) ?_
  refine lp (γ:=Nat) (fun s=>cC [(4,.one (.pt 0 0)),(7,.one (.pt 1 0)),(10,.one (tv (.int .i64 ((q:Nat):Int)))),(72,.one (.sl 3 0 (R.E))),(73,.one (tv (.int .i64 ((R.E:Nat):Int)))),(74,.one (tv (.int .i64 ((q:Nat):Int)))),(80,.one (.t (sV 102 false (R.wl (R.run ys.length) q (R.I ys.length))))),(81,.one (tv (.int .i64 (((R.wl (R.run ys.length) q (R.I ys.length)).length:Nat):Int)))),(82,.one (tv (.int .i64 ((s:Nat):Int))))]) (fun s=>[(⟨39,0,[tv (.slice none 0 0),tv (.slice none 0 0),tv (.slice none 0 0)]⟩:Ob),⟨95,0,[.t (dB true (R.rls (R.run ys.length) ys.length)),.sl 2 0 (R.vl ys.length).length,.t (cJ true false (R.run ys.length)),.sl 3 0 R.E]⟩,⟨64,18,((R.vns (R.run ys.length) (R.ex (R.run ys.length) ys.length) (R.clk (R.run ys.length) ys.length q s) (R.vl ys.length)).flatMap (eF false)).map .t⟩,⟨96,1,((R.own (R.run ys.length) (R.I ys.length) ys.length).map dN).map .t⟩].map some) (fun s=>s≤(R.wl (R.run ys.length) q (R.I ys.length)).length) (fun s=>(R.wl (R.run ys.length) q (R.I ys.length)).length-s) 0 (Nat.zero_le _) (aU h0 [0,1,2,3] _ _ (by decide) ⟨rfl,rfl,rfl,rfl,rfl,rfl,rfl,rfl,rfl,trivial⟩ ⟨oe rfl rfl,oe rfl rfl,aK rfl,aK rfl,rfl⟩) ?_
  rintro k hk;refine sq ?_;refine rl ?_;refine o1 ?_;refine nl ?_;refine sq ?_;refine bN rfl (fun h9=>?_) (fun h9=>?_)
  ·refine sk ?_;refine sq ?_;refine bl ?_;refine sq ?_;refine rl ?_;refine o1 ?_
   refine eB (cD false (aI (R.wl (R.run ys.length) q (R.I ys.length)) (k))) (rF false (by omega)) ?_
   refine al 4 ?_;refine st ?_;refine nl ?_;obtain⟨j,hx,hj0,hjn,hjf⟩:=PF (R:=R) (U:=(R.run ys.length)) (q:=q) (n:=ys.length) (k:=k) (by omega)
   have hx1:(aI (R.wl (R.run ys.length) q (R.I ys.length)) (k)).1=((j:Nat):Int):=by rw[hx]
   have hx2:(aI (R.wl (R.run ys.length) q (R.I ys.length)) (k)).2=R.left (R.run ys.length) j q:=by rw[hx]
   have hjv:R.isV j q=true:=by
    have h6:=(hIv.v j q hjn hq9).1.2
    cases h8:R.isV j q
    ·rw[zT h8]at h6
     grind
    rfl
   have hjm:(j,q)∈(R.vl ys.length):=gH.2 ⟨hjn,hq9,hjv⟩
   have hfi:(cK (bX (aI (R.wl (R.run ys.length) q (R.I ys.length)) (k)).1 ((q:Nat):Int)) (R.vns (R.run ys.length) (R.ex (R.run ys.length) ys.length) (R.clk (R.run ys.length) ys.length q k) (R.vl ys.length)))<(R.vns (R.run ys.length) (R.ex (R.run ys.length) ys.length) (R.clk (R.run ys.length) ys.length q k) (R.vl ys.length)).length:=by rw[hx1,eL];exact(uV hjm).1
   have hge:(R.vns (R.run ys.length) (R.ex (R.run ys.length) ys.length) (R.clk (R.run ys.length) ys.length q k) (R.vl ys.length))[(cK (bX (aI (R.wl (R.run ys.length) q (R.I ys.length)) (k)).1 ((q:Nat):Int)) (R.vns (R.run ys.length) (R.ex (R.run ys.length) ys.length) (R.clk (R.run ys.length) ys.length q k) (R.vl ys.length)))]? =some (R.vn (R.run ys.length) (R.ex (R.run ys.length) ys.length) (R.clk (R.run ys.length) ys.length q k) (j,q)):=by rw[hx1];exact wG hjm
   have hset:(R.vns (R.run ys.length) (R.ex (R.run ys.length) ys.length) (R.clk (R.run ys.length) ys.length q k) (R.vl ys.length)).set (cK (bX (aI (R.wl (R.run ys.length) q (R.I ys.length)) (k)).1 ((q:Nat):Int)) (R.vns (R.run ys.length) (R.ex (R.run ys.length) ys.length) (R.clk (R.run ys.length) ys.length q k) (R.vl ys.length))) (⟨(R.vn (R.run ys.length) (R.ex (R.run ys.length) ys.length) (R.clk (R.run ys.length) ys.length q k) (j,q)).y,(R.vn (R.run ys.length) (R.ex (R.run ys.length) ys.length) (R.clk (R.run ys.length) ys.length q k) (j,q)).e,(R.vn (R.run ys.length) (R.ex (R.run ys.length) ys.length) (R.clk (R.run ys.length) ys.length q k) (j,q)).l,(R.vn (R.run ys.length) (R.ex (R.run ys.length) ys.length) (R.clk (R.run ys.length) ys.length q k) (j,q)).u,(R.vn (R.run ys.length) (R.ex (R.run ys.length) ys.length) (R.clk (R.run ys.length) ys.length q k) (j,q)).x,(aI (R.wl (R.run ys.length) q (R.I ys.length)) (k)).2⟩:Vn)=(R.vns (R.run ys.length) (R.ex (R.run ys.length) ys.length) (R.clk (R.run ys.length) ys.length q (k+1)) (R.vl ys.length)):=by
    rw[hx1,hx2]
    have h9:=Bk (R:=R) (U:=(R.run ys.length)) (U':=(R.run ys.length)) (x:=(R.ex (R.run ys.length) ys.length)) (x':=(R.ex (R.run ys.length) ys.length)) (c:=(R.clk (R.run ys.length) ys.length q k)) (c':=(R.clk (R.run ys.length) ys.length q (k+1))) (pI ys.length) hjm fun p _ hp=>by
     unfold Rg.vn;rw[Xv (by omega) hx fun h=>hp (Prod.ext h.1 h.2)]
    rw[←h9];unfold Rg.vn;rw[ET (by omega) hx hjf]
   refine rd [0,4] (fun i=>[9].contains i) mixed ?_
   refine dv 0 ?_;refine dv 1 ?_;refine aO 2 ?_;refine dv 3 ?_;refine dv 5 ?_;refine aO 6 ?_
   have hvi:=zP (vs:=(R.vns (R.run ys.length) (R.ex (R.run ys.length) ys.length) (R.clk (R.run ys.length) ys.length q k) (R.vl ys.length))) (y:=(aI (R.wl (R.run ys.length) q (R.I ys.length)) (k)).1) (e:=((q:Nat):Int)) (ra:=(dB true (R.rls (R.run ys.length) ys.length))) (rb:=(cJ true false (R.run ys.length))) (rc:=.v (.bool false)) (m:=R.E) (l3:=(R.own (R.run ys.length) (R.I ys.length) ys.length).map dN) hfi (by rw[eL];omega)
   rw[show(R.vns (R.run ys.length) (R.ex (R.run ys.length) ys.length) (R.clk (R.run ys.length) ys.length q k) (R.vl ys.length)).length=(R.vl ys.length).length from eL]at hvi
   refine IS 4 [1,2,3] rfl hvi Wx ⟨oe rfl rfl,aK rfl,aK rfl,rfl⟩ ⟨rfl,rfl,rfl,rfl⟩ (ok:=[some ⟨95,0,[.t (dB true (R.rls (R.run ys.length) ys.length)),.sl 2 0 (R.vl ys.length).length,.t (cJ true false (R.run ys.length)),.sl 3 0 R.E]⟩,some ⟨64,18,((R.vns (R.run ys.length) (R.ex (R.run ys.length) ys.length) (R.clk (R.run ys.length) ys.length q k) (R.vl ys.length)).flatMap (eF false)).map .t⟩,some ⟨96,1,((R.own (R.run ys.length) (R.I ys.length) ys.length).map dN).map .t⟩]) ⟨oe rfl rfl,aK rfl,aK rfl,rfl⟩ ⟨rfl,rfl,trivial⟩ ?_
   refine eT 7 (by kernel_rfl) rfl rfl aA rfl (by trivial) ?_ (fun h=>by first | rfl | cases h)
   refine df 8 ?_
   refine lP 9 (dG (xs:=(R.vns (R.run ys.length) (R.ex (R.run ys.length) ys.length) (R.clk (R.run ys.length) ys.length q k) (R.vl ys.length))) (k:=(cK (bX (aI (R.wl (R.run ys.length) q (R.I ys.length)) (k)).1 ((q:Nat):Int)) (R.vns (R.run ys.length) (R.ex (R.run ys.length) ys.length) (R.clk (R.run ys.length) ys.length q k) (R.vl ys.length)))) (x:=(R.vn (R.run ys.length) (R.ex (R.run ys.length) ys.length) (R.clk (R.run ys.length) ys.length q k) (j,q))) (f:=(eF false)) (z:=18) (o:=14) (x':=(⟨(R.vn (R.run ys.length) (R.ex (R.run ys.length) ys.length) (R.clk (R.run ys.length) ys.length q k) (j,q)).y,(R.vn (R.run ys.length) (R.ex (R.run ys.length) ys.length) (R.clk (R.run ys.length) ys.length q k) (j,q)).e,(R.vn (R.run ys.length) (R.ex (R.run ys.length) ys.length) (R.clk (R.run ys.length) ys.length q k) (j,q)).l,(R.vn (R.run ys.length) (R.ex (R.run ys.length) ys.length) (R.clk (R.run ys.length) ys.length q k) (j,q)).u,(R.vn (R.run ys.length) (R.ex (R.run ys.length) ys.length) (R.clk (R.run ys.length) ys.length q k) (j,q)).x,(aI (R.wl (R.run ys.length) q (R.I ys.length)) (k)).2⟩:Vn)) (us:=(Fr4.of (aI (R.wl (R.run ys.length) q (R.I ys.length)) (k)).2).tr false) (eG false) (hge) (Nat.le_of_ble_eq_true rfl) rfl) (eH (xs:=(R.vns (R.run ys.length) (R.ex (R.run ys.length) ys.length) (R.clk (R.run ys.length) ys.length q k) (R.vl ys.length))) (k:=(cK (bX (aI (R.wl (R.run ys.length) q (R.I ys.length)) (k)).1 ((q:Nat):Int)) (R.vns (R.run ys.length) (R.ex (R.run ys.length) ys.length) (R.clk (R.run ys.length) ys.length q k) (R.vl ys.length)))) (f:=(eF false)) (z:=18) (o:=14) (us:=(Fr4.of (aI (R.wl (R.run ys.length) q (R.I ys.length)) (k)).2).tr false) (eG false) (by omega) (Nat.le_of_ble_eq_true rfl)) ?_
   refine aQ ?_;refine rl ?_;refine o1 ?_;refine WL.cast (t:=95) (u':=.int .i64 ((k+1:Nat):Int)) rfl (aC (by omega)) ?_
   refine o1 ?_;refine nl ?_
   exact⟨k+1,by omega,by omega,aU h0 [0,1,2,3] _ _ (by decide) ⟨rfl,rfl,rfl,rfl,rfl,rfl,rfl,rfl,rfl,trivial⟩ ⟨oe rfl rfl,oe rfl rfl,aK (congrArg (fun l:List Vn=>some (⟨64,18,(l.flatMap (eF false)).map .t⟩:Ob)) hset),aK rfl,rfl⟩⟩
  refine ex ?_;refine rl ?_;refine o1 ?_;refine WL.cast (t:=96) (u':=.int .i64 ((q+1:Nat):Int)) rfl (aC (by omega)) ?_
  refine o1 ?_;refine nl ?_
  have hxk:(R.vns (R.run ys.length) (R.ex (R.run ys.length) ys.length) (R.clk (R.run ys.length) ys.length q k) (R.vl ys.length))=(R.vns (R.run ys.length) (R.ex (R.run ys.length) ys.length) (R.clk (R.run ys.length) ys.length (q+1) 0) (R.vl ys.length)):=Hf fun p hp=>⟨rfl,Xt hIv (by omega) hq9 (gH.1 hp).1⟩
  exact⟨q+1,by omega,by omega,aU h0 [0,1,2,3] _ _ (by decide) ⟨rfl,rfl,rfl,rfl,rfl,trivial⟩ ⟨oe rfl rfl,oe rfl rfl,aK (congrArg (fun l:List Vn=>some (⟨64,18,(l.flatMap (eF false)).map .t⟩:Ob)) hxk),aK rfl,rfl⟩⟩
 refine ex ?_;refine sq ?_;have hqq:q=R.E:=by omega
 subst hqq
 have hfin:(R.vns (R.run ys.length) (R.ex (R.run ys.length) ys.length) (R.clk (R.run ys.length) ys.length R.E 0) (R.vl ys.length))=(R.vnE ys.length):=Hf fun p hp=>⟨rfl,Xu (gH.1 hp).2.1⟩
 refine WP.sub (nN (j:=1) (key:=4) (p:=0) (e:=62) (z:=5) (n:=(R.rls (R.run ys.length) ys.length).length) (trs:=(R.rls (R.run ys.length) ys.length).flatMap nI) rfl rfl rfl rfl rfl) ?_
 refine WP.sub (nN (j:=1) (key:=5) (p:=2) (e:=58) (z:=7) (n:=(R.run ys.length).length) (trs:=(R.run ys.length).flatMap (iN false)) rfl rfl rfl rfl rfl) ?_;refine rl ?_
 (iterate 3 refine o1 ?_);refine ld ?_;refine st ?_;refine o1 ?_;refine nl ?_;refine rt ?_
 have h9:(.s true 64 18 (R.vl ys.length).length ((R.vns (R.run ys.length) (R.ex (R.run ys.length) ys.length) (R.clk (R.run ys.length) ys.length R.E 0) (R.vl ys.length)).flatMap (eF false)):Tr)=cW true false (R.vnE ys.length):=by
  rw[hfin];unfold cW Rg.vnE;rw[eL]
 exact en (.inl rfl) rfl (uE (.cons (.agg (.cons (.sl (trs:=(R.rls (R.run ys.length) ys.length).flatMap nI) rfl rfl (bZ _ _ (cG mN _)) (cG mN _)) (.cons (.sl (trs:=(R.vns (R.run ys.length) (R.ex (R.run ys.length) ys.length) (R.clk (R.run ys.length) ys.length R.E 0) (R.vl ys.length)).flatMap (eF false)) rfl rfl (bZ _ _ (by rw[cG (eG false),eL])) (by rw[cG (eG false),eL])) (.cons (.sl (trs:=(R.run ys.length).flatMap (iN false)) rfl rfl (bZ _ _ (cG (fE false) _)) (cG (fE false) _)) .nil)))) (.cons (cN _) .nil))) (by decide) (fun h=>by cases h) (congrArg (fun z:Tr=>FV.tup [.agg [.t (dB true (R.rls (R.run ys.length) ys.length)),.t z,.t (cJ true false (R.run ys.length))],.one (tv (.int .i64 0))]) h9)
def eN (a:Fr4):Bool:=decide (a.x.length≤3)&&decide (a.y.length≤3)
def kJ (y:Yr):Bool:=decide (y.m.length≤6)&&(decide (y.b.length≤6)&&(eN y.l&&y.b.all eN))
def jQ (ys:List Yr):Bool:= !(decide (10<ys.length)&&decide (ys.length≤40)|| decide (60<ys.length))&&ys.all kJ
theorem zX {a:Fr4}(h:eN a=true):a.len 3:=by
 unfold eN at h
 simp only[Bool.and_eq_true,decide_eq_true_eq]at h
 exact h
theorem Hg {α:Type}{l:List α}{d:α}{p:α→Bool}(h:∀j,j<l.length→p (l.getD j d)=true):l.all p=true:=by
 rw[List.all_eq_true]
 intro x hx
 obtain⟨j,hj,rfl⟩:=List.getElem_of_mem hx
 have:=h j hj
 rwa[List.getD_eq_getElem?_getD,List.getElem?_eq_getElem hj]at this
theorem Lq {y:Yr}{k:Nat}(hk:k<y.b.length) (h:eN (dY y.b k)=false):kJ y=false:=by
 have h1:y.b.all eN=false:=by
  rw[List.all_eq_false]
  exact⟨dY y.b k,pD hk,by simp[h]⟩
 unfold kJ
 rw[h1]
 simp
theorem Hh {y:Yr}{k:Nat}(hm:y.m.length≤6) (hb:y.b.length≤6) (hl:eN y.l=true) (hk:y.b.length≤k) (h:∀j,j<k→eN (dY y.b j)=true):kJ y=true:=by
 unfold kJ
 rw[decide_eq_true hm,decide_eq_true hb,hl,Hg (d:=Wg) fun j hj=>h j (by omega)]
 rfl
theorem lH {ys:List Yr}{k:Nat}(hk:k<ys.length) (h:kJ (aP ys k)=false):jQ ys=false:=by
 have h1:ys.all kJ=false:=by
  rw[List.all_eq_false]
  exact⟨aP ys k,iE hk,by simp[h]⟩
 unfold jQ
 rw[h1]
 simp
theorem Xy {ys:List Yr}{k:Nat}(hk:ys.length≤k) (h:∀j,j<k→kJ (aP ys j)=true):jQ ys= !(decide (10<ys.length)&&decide (ys.length≤40)|| decide (60<ys.length)):=by
 unfold jQ
 rw[Hg (d:=AP) fun j hj=>h j (by omega),Bool.and_true]
theorem yH {ys:List Yr}{k:Nat}(hk:ys.length≤k) (h:∀j,j<k→kJ (aP ys j)=true) (hl:ys.length≤10∨40<ys.length∧ys.length≤60):jQ ys=true:=by
 rw[Xy hk h]
 simp only[Bool.not_eq_true',Bool.or_eq_false_iff,Bool.and_eq_false_iff,decide_eq_false_iff_not]
 omega
theorem yI {ys:List Yr}(h:(10<ys.length∧ys.length≤40)∨60<ys.length):jQ ys=false:=by
 unfold jQ
 have:(decide (10<ys.length)&&decide (ys.length≤40)|| decide (60<ys.length))=true:=by
  simp only[Bool.or_eq_true,Bool.and_eq_true,decide_eq_true_eq]
  omega
 rw[this]
 rfl
theorem mU {y:Yr}(h:6<y.m.length∨6<y.b.length∨eN y.l=false):kJ y=false:=by
 unfold kJ
 rcases h with h | h | h
 ·rw[decide_eq_false (show¬y.m.length≤6 by omega)];rfl
 ·rw[decide_eq_false (show¬y.b.length≤6 by omega),Bool.false_and,Bool.and_false]
 rw[h,Bool.false_and,Bool.and_false,Bool.and_false]
theorem yJ {ys:List Yr}(h:jQ ys=true):(ys.length≤10∨40<ys.length∧ys.length≤60)∧∀y∈ys,y.m.length≤6∧y.b.length≤6∧y.l.len 3∧∀a∈y.b,a.len 3:=by
 unfold jQ at h
 simp only[Bool.and_eq_true,Bool.not_eq_true',Bool.or_eq_false_iff,Bool.and_eq_false_iff,decide_eq_false_iff_not,List.all_eq_true]at h
 refine⟨by omega,fun y hy=>?_⟩
 have h2:=h.2 y hy
 unfold kJ at h2
 simp only[Bool.and_eq_true,decide_eq_true_eq,List.all_eq_true]at h2
 exact⟨h2.1,h2.2.1,zX h2.2.2.1,fun a ha=>zX (h2.2.2.2 a ha)⟩
structure Agr (R R':Rg) (k:Nat):Prop where
 f:R.f=R'.f
 e:R.E=R'.E
 m:∀y,y<k→R.mem y=R'.mem y
 b:∀y,y<k→R.base y=R'.base y
 l:∀y,y<k→R.lim y=R'.lim y
section
variable {R R':Rg}{U W:List Ur}{k n t y e i:Nat}{p:Ur→Bool}
theorem Agr.isV (h:Agr R R' k) (hy:y<k):R.isV y=R'.isV y:=by
 funext e
 unfold Rg.isV
 rw[h.m y hy,h.b y hy]
theorem Agr.vl (h:Agr R R' k):∀{t:Nat},t≤k→R.vl t=R'.vl t
 | 0,_=>rfl
 | t+1,ht=>by
  unfold Rg.vl
  rw[Agr.vl h (t:=t) (by omega),h.isV (by omega),h.e]
theorem Agr.use (h:Agr R R' k) (hy:y<k) (ht:t<k):R.use U y e t=R'.use U y e t:=by
 unfold Rg.use Rg.left Rg.los Rg.room
 rw[h.isV hy,h.b y hy,h.b t ht,h.l t ht]
theorem Agr.fold (h:Agr R R' k) (ht:t<k):∀(L:List (Nat×Nat)) (U:List Ur),(∀p∈L,p.1<k)→L.foldl (fun U p=>R.use U p.1 p.2 t) U=L.foldl (fun U p=>R'.use U p.1 p.2 t) U
 | [],_,_=>rfl
 | p::L,U,hL=>by
  rw[List.foldl_cons,List.foldl_cons,h.use (hL p (List.mem_cons_self ..)) ht]
  exact Agr.fold h ht L _ fun q hq=>hL q (List.mem_cons_of_mem _ hq)
theorem Agr.step (h:Agr R R' k) (ht:t<k):R.step U t=R'.step U t:=by
 unfold Rg.step
 rw[show(R.vl t).filter (R.may t)=(R'.vl t).filter (R'.may t) from by
  rw[h.vl (Nat.le_of_lt ht)]
  congr 1
  funext p
  unfold Rg.may
  rw[h.f,h.m t ht]]
 exact h.fold ht _ _ fun p hp=>by
  have:=(gH.1 (List.mem_filter.1 hp).1).1
  omega
theorem Agr.run (h:Agr R R' k):∀{t:Nat},t≤k→R.run t=R'.run t
 | 0,_=>rfl
 | t+1,ht=>by
  unfold Rg.run
  rw[Agr.run h (t:=t) (by omega),h.step (by omega)]
theorem Dl:∀(a b:List Rat),mS (a++b)=mS a+mS b
 | [],b=>by rw[List.nil_append];show _=0+_;grind
 | x::a,b=>by rw[List.cons_append,Dm,Dl a b,Dm,Rat.add_assoc]
theorem EW:lU (U++W) p=lU U p+lU W p:=by
 unfold lU
 rw[List.filter_append,List.map_append,Dl]
theorem Hi:∀(L:List (Nat×Nat)) (U:List Ur),∃W,L.foldl (fun U p=>R.use U p.1 p.2 t) U=U++W∧∀u∈W,u.y=(t:Int)∧0<u.n
 | [],U=>⟨[],(List.append_nil U).symm,fun _ h=>(by cases h)⟩
 | p::L,U=>by
  rw[List.foldl_cons]
  obtain⟨W,h1,h2⟩:=Hi L (R.use U p.1 p.2 t)
  rw[h1]
  unfold Rg.use Rg.us
  split
  ·rename_i h
   refine⟨⟨p.1,p.2,t,_⟩::W,by rw[List.append_assoc];rfl,fun u hu=>?_⟩
   rcases List.mem_cons.1 hu with rfl | hu
   ·exact⟨rfl,h⟩
   exact h2 u hu
  exact⟨W,rfl,h2⟩
theorem Lr (hk:k≤n):∃W,R.run n=R.run k++W∧∀u∈W,(k:Int)≤u.y:=by
 induction n with
 | zero=>exact⟨[],by rw[show k=0 by omega,List.append_nil],fun _ h=>(by cases h)⟩
 | succ n ih=>
  by_cases h:k=n+1
  ·exact⟨[],by rw[h,List.append_nil],fun _ h=>(by cases h)⟩
  obtain⟨W,h1,h2⟩:=ih (by omega)
  obtain⟨V,h3,h4⟩:=Hi (R:=R) (t:=n) ((R.vl n).filter (R.may n)) (R.run n)
  refine⟨W++V,?_,fun u hu=>?_⟩
  ·show R.step (R.run n) n=_
   unfold Rg.step
   rw[h3,h1,List.append_assoc]
  rcases List.mem_append.1 hu with hu | hu
  ·exact h2 u hu
  have:=(h4 u hu).1
  omega
theorem EX (hi:i<k) (hk:k≤n):eW (R.run n) i=eW (R.run k) i:=by
 obtain⟨W,h1,h2⟩:=Lr (R:=R) hk
 have h3:lU W (fun u=>decide (u.y=(i:Int)))=0:=sY fun u hu=>by
  have:=h2 u hu
  exact decide_eq_false (by omega)
 unfold eW
 rw[h1,EW,h3]
 grind
theorem KQ (hk:k≤n):(R.vl k).length≤(R.vl n).length:=by
 induction n with
 | zero=>rw[show k=0 by omega];exact Nat.le_refl _
 | succ n ih=>
  by_cases h:k=n+1
  ·rw[h];exact Nat.le_refl _
  have:=ih (by omega)
  show _≤(R.vl n++_).length
  rw[List.length_append]
  omega
end
section
variable {ys:List Yr}{f k i:Nat}
theorem kC (h:i<k):aP (ys.take k) i=aP ys i:=by
 unfold aP
 rw[List.getD_eq_getElem?_getD,List.getD_eq_getElem?_getD,List.getElem?_take,if_pos h]
theorem Hj (h:0<k):Agr (fB f (ys.take k)) (fB f ys) k:=
 ⟨rfl,by show(aP _ 0).m.length=_;rw[kC h];rfl,fun y hy=>by funext e;show nX (aP _ y).m e=_;rw[kC hy];rfl,fun y hy=>by funext e;show(dY (aP _ y).b e).q=_;rw[kC hy];rfl,fun y hy=>by show(aP _ y).l.q=_;rw[kC hy];rfl⟩
theorem Hk:(fB f (ys.take k)).run k=(fB f ys).run k:=by
 by_cases h:k=0
 ·subst h;rfl
 exact(Hj (by omega)).run (Nat.le_refl k)
theorem EY:(fB f (ys.take k)).vl k=(fB f ys).vl k:=by
 by_cases h:k=0
 ·subst h;rfl
 exact(Hj (by omega)).vl (Nat.le_refl k)
end
theorem Xz {B:Nat}:∀{l:List Rat},(∀q∈l,Sz B q)→Sz (2+l.length*(B+1)) (mS l):=fun{l} h=>by
 have key:∀(l:List Rat) (p:Rat) (m:Nat),Sz m p→(∀q∈l,Sz B q)→Sz (m+l.length*(B+1)) (l.foldl (· + ·) p):=by
  intro l
  induction l with
  | nil=>intro p m hp _;simpa using hp
  | cons q l ih=>
   intro p m hp hl
   have h1:=ih (p+q) (m+B+1) (Sr hp (hl q (List.mem_cons_self ..))) fun z hz=>hl z (List.mem_cons_of_mem _ hz)
   rw[List.foldl_cons,List.length_cons,Nat.add_mul,Nat.one_mul]
   exact h1.mono (by omega)
 exact key l 0 2 ((zY (z:=0) (by omega) (by omega)).mono (by omega)) h
section
variable {R:Rg}{U W:List Ur}{N n k t y e:Nat}
theorem Ls:(R.vnE n).length=(R.vl n).length:=eL
theorem Lu (hO:R.Ok N):∀{n:Nat},n≤N→∀u∈R.run n,Sz 300 u.n
 | 0,_,u,h=>by cases h
 | n+1,hn,u,h=>by
  have key:∀(L:List (Nat×Nat)) (V:List Ur),R.Iv N V→(∀u∈V,Sz 300 u.n)→(∀p∈L,p.1<N∧p.2<R.E)→∀u∈L.foldl (fun U p=>R.use U p.1 p.2 n) V,Sz 300 u.n:=by
   intro L
   induction L with
   | nil=>intro V _ h _;exact h
   | cons p L ih=>
    intro V hI hV hL
    have h1:=hL p (List.mem_cons_self ..)
    refine ih _ (hI.use h1.1 h1.2 (by omega)) (fun u hu=>?_) fun q hq=>hL q (List.mem_cons_of_mem _ hq)
    dsimp only at hu
    unfold Rg.use at hu
    by_cases h0:0<aM (R.left V p.1 p.2) [R.room V p.2 n]
    ·rw[lQ h0]at hu
     rcases List.mem_append.1 hu with hu | hu
     ·exact hV u hu
     rw[List.mem_singleton]at hu
     subst hu
     refine hO.sz (Rat.le_of_lt h0) ?_ ((hI.v _ _ h1.1 h1.2).2.min (Hl hI h1.2 (by omega)))
     exact Rat.le_trans (pJ _ _) (Rat.le_trans (hI.v _ _ h1.1 h1.2).1.2 (hO.los_le h1.1 h1.2))
    rw[wS h0]at hu
    exact hV u hu
  exact key _ _ (hO.run (by omega)) (Lu hO (n:=n) (by omega)) (fun p hp=>by
   have:=gH.1 (List.mem_filter.1 hp).1
   exact⟨by omega,this.2.1⟩) u h
theorem KR {p:Ur→Bool}{B:Nat}(h:∀u∈U,Sz B u.n):Sz (2+U.length*(B+1)) (lU U p):=by
 unfold lU
 refine(Xz (B:=B) fun q hq=>?_).mono ?_
 ·obtain⟨u,hu,rfl⟩:=List.mem_map.1 hq
  exact h u (List.mem_filter.1 hu).1
 rw[List.length_map]
 have:=Nat.mul_le_mul (List.length_filter_le p U) (Nat.le_refl (B+1))
 omega
theorem EZ {p:Ur→Bool}{B M:Nat}(h:∀u∈U,Sz B u.n) (hM:2+U.length*(B+1)≤M):Sz M (lU (U.take k) p):=by
 refine(KR (B:=B) fun u hu=>h u (List.mem_of_mem_take hu)).mono ?_
 have:=Nat.mul_le_mul (show(U.take k).length≤U.length by rw[List.length_take];omega) (Nat.le_refl (B+1))
 omega
theorem base_le {b:Rat}:b≤Ya 0 [b]∧0≤Ya 0 [b]:=by
 show b≤(if(0:Rat)<b then b else 0)∧0≤(if(0:Rat)<b then b else 0)
 split <;> exact⟨by grind,by grind⟩
theorem Ss {i:Nat}(hi:i<n):jY (R.rls U n) i=R.rl U i:=by
 unfold Rg.rls jY
 rw[List.getD_eq_getElem?_getD,List.getElem?_map,List.getElem?_range hi]
 rfl
end
section
variable {R:Rg}{U V W:List Ur}{N n k t y e:Nat}{p:Nat×Nat}{m:Rat}
end
end Go.Proofs.YtbbabfkgdnkehaaGreat
namespace Go.Proofs.YtbbabfkgdnkehaaGreat
open Go Go.RowKit Go.ChangeShapes
def Reads (P:Program) (t:TypeId) (z:Nat) (T:List Tr→Prop):Prop:=
 P.cellsOf t=z∧∀(H:Type) (enc:TypeId×Value→H) (w:World) (fuel:Nat) (cs:List Value) (x:DataW H×List MemPlace),DataW.trod enc P w 0 (fun _=>true) true fuel t cs=some x→∃l,T l∧l.length=z∧FRL w (Dn w) l cs
theorem Lw {W:World}{N:Nat→Prop}:∀{l l':List Tr}{us us':List Value},FRL W N l us→FRL W N l' us'→FRL W N (l++l') (us++us')
 | [],l',us,us',h,h'=>by simp only[FRL]at h;subst h;exact h'
 | x::l,l',u::us,us',h,h'=>by simp only[FRL,List.cons_append]at*;exact⟨h.1,Lw h.2 h'⟩
 | _::_,_,[],_,h,_=>by simp only[FRL]at h
theorem Lx {W:World}{N:Nat→Prop}:∀{l:List Tr}{us:List Value}{j:Nat}{x:Tr},FRL W N l us→l[j]? =some x→∃u,us[j]? =some u∧FR W N x u
 | [],_,_,_,_,h=>by simp at h
 | y::l,u::us,0,x,h,e=>by
  simp only[FRL]at h
  simp at e
  subst e
  exact⟨u,rfl,h.1⟩
 | y::l,u::us,j+1,x,h,e=>by
  simp only[FRL]at h
  exact Lx (j:=j) h.2 (by simpa using e)
 | _::_,[],_,_,h,_=>by simp only[FRL]at h
section
variable {P:Program}{t e:TypeId}{k:IntKind}{z:Nat}{T T':List Tr→Prop}
theorem Reads.mono (h:Reads P t z T) (hi:∀l,T l→T' l):Reads P t z T':=⟨h.1,fun H enc w fuel cs x hx=>let ⟨l,a,b⟩:=h.2 H enc w fuel cs x hx;⟨l,hi l a,b⟩⟩
theorem Ly (ht:P.underlying t=some .bool) (hz:P.cellsOf t=1):Reads P t 1 (fun l=>∃b,l=[.v (.bool b)]):=⟨hz,fun H enc w fuel cs x hx=>by
 obtain⟨b,rfl,_⟩:=DataW.trod_bool ht hx
 exact⟨_,⟨b,rfl⟩,rfl,by simp[FRL,FR]⟩⟩
theorem St (ht:P.underlying t=some (.int k)) (hz:P.cellsOf t=1):Reads P t 1 (fun l=>∃n,l=[.v (.int k n)]∧k.min≤n∧n≤k.max):=⟨hz,fun H enc w fuel cs x hx=>by
 obtain⟨n,rfl,_,h⟩:=DataW.trod_int ht hx
 simp only[Lit.wf,Bool.and_eq_true,decide_eq_true_eq]at h
 exact⟨_,⟨n,rfl,h⟩,rfl,by simp[FRL,FR]⟩⟩
inductive Flds (P:Program):Nat→List Field→Nat→(List Tr→Prop)→Prop
 | nil {o:Nat}:Flds P o [] 0 (· =[])
 | cons {o z z':Nat}{f:Field}{fs:List Field}{T T':List Tr→Prop}(ho:f.offset=o) (h:Reads P f.type z T) (h':Flds P (o+z) fs z' T'):Flds P o (f::fs) (z+z') (fun l=>∃a b,l=a++b∧T a∧T' b)
theorem Flds.read {H:Type}{enc:TypeId×Value→H}{w:World}{n o:Nat}{fs:List Field}(h:Flds P o fs z T):∀{cs:List Value},o+z≤cs.length→(∀f∈fs,∃x,DataW.trod enc P w 0 (fun _=>true) true n f.type ((cs.drop f.offset).take (P.cellsOf f.type))=some x)→∃l,T l∧l.length=z∧FRL w (Dn w) l ((cs.drop o).take z):=by
 induction h with
 | nil=>exact fun _ _=>⟨[],rfl,rfl,by simp[FRL]⟩
 | @cons o z z' f fs T T' ho hr _ ih=>
  intro cs hl hf
  obtain⟨b,h1,h2,h3⟩:=ih (cs:=cs) (by omega) fun f hm=>hf f (List.mem_cons_of_mem _ hm)
  obtain⟨x,hx⟩:=hf f List.mem_cons_self
  obtain⟨a,g1,g2,g3⟩:=hr.2 H enc w n _ x hx
  rw[ho,hr.1]at g3
  refine⟨a++b,⟨a,b,rfl,g1,h1⟩,by simp[g2,h2],?_⟩
  rw[List.take_add,List.drop_drop]
  exact Lw g3 h3
theorem vF {fs:List Field}{z':Nat}(ht:P.underlying t=some (.struct fs.toArray)) (hz:P.cellsOf t=z) (h:Flds P 0 fs z' T) (e:z'=z:=by rfl):Reads P t z T:=⟨hz,fun H enc w fuel cs x hx=>by
 subst e
 obtain⟨xs,n,_,rfl,hl,hlen,hf⟩:=DataW.trod_struct ht hx
 rw[hz]at hl
 obtain⟨l,h1,h2,h3⟩:=h.read (H:=H) (enc:=enc) (w:=w) (n:=n) (cs:=cs) (by omega) fun f hm=>by
  obtain⟨i,hi⟩:=List.mem_iff_getElem?.1 hm
  have h1:=hf i f (by simpa using hi)
  have h2:i<xs.length:=by
   have:=(List.getElem?_eq_some_iff.1 hi).1
   simp at hlen
   omega
  rw[List.getElem?_eq_getElem h2]at h1
  exact⟨_,h1⟩
 refine⟨l,h1,h2,?_⟩
 rw[List.drop_zero,List.take_of_length_le (by omega)]at h3
 exact h3⟩
theorem tB (ht:P.underlying t=some (.slice e)) (hz:P.cellsOf t=1) (hz0:0<z) (h:Reads P e z T):Reads P t 1 (fun l=>∃rows:List (List Tr),(∀r∈rows,T r∧r.length=z)∧l=[.s false e z rows.length rows.flatten]):=⟨hz,fun H enc w fuel cs x hx=>by
 have hlen:∀(rows:List (List Tr)),(∀r∈rows,T r∧r.length=z)→rows.flatten.length=rows.length*z:=by
  intro rows
  induction rows with
  | nil=>intro _;simp
  | cons r rows ih=>
   intro hr
   rw[List.flatten_cons,List.length_append,(hr r List.mem_cons_self).2,ih fun r hm=>hr r (List.mem_cons_of_mem _ hm),List.length_cons,Nat.succ_mul,Nat.add_comm]
 rcases Deep.open_slice ht hx with⟨rfl,_⟩ | ⟨a,len,cap,m,n,D,Pl,rfl,_,hl,hm,hmm,_,hel⟩
 ·refine⟨_,⟨[],fun _ h=>(by cases h),rfl⟩,rfl,?_⟩
  simp only[FRL,FR,and_true]
  exact⟨none,0,rfl,Nat.le_refl _,by omega,by simp,.inl rfl⟩
 have hmc:m=cap:=by simpa using hmm
 rw[h.1]at hel
 have hex:∀i:Nat,∃l:List Tr,i<len→T l∧l.length=z∧∀j y,l[j]? =some y→∃u,w.cell? ((a.add (i*z)).add j)=some u∧FR w (Dn w) y u:=fun i=>by
  by_cases hi:i<len
  ·obtain⟨cs',h1,h2⟩:=hel i (by omega)
   obtain⟨l,g1,g2,g3⟩:=h.2 H enc w n cs' _ h2
   obtain⟨_,h3,h4⟩:=World.cells?_some h1
   refine⟨l,fun _=>⟨g1,g2,fun j y hj=>?_⟩⟩
   obtain⟨u,hu,hy⟩:=Lx g3 hj
   have hjl:=(List.getElem?_eq_some_iff.1 hj).1
   exact⟨u,by rw[h4 j (by omega),hu],hy⟩
  exact⟨[],fun h=>absurd h hi⟩
 have hF:=fun i=>Classical.choose_spec (hex i)
 have hrow:∀r∈(List.range len).map (fun i=>Classical.choose (hex i)),T r∧r.length=z:=fun r hr=>by
  obtain⟨i,hi,rfl⟩:=List.mem_map.1 hr
  have:=hF i (List.mem_range.1 hi)
  exact⟨this.1,this.2.1⟩
 refine⟨_,⟨_,hrow,rfl⟩,rfl,?_⟩
 have h5:=hlen _ hrow
 simp only[FRL,and_true,FR]
 refine⟨some a,cap,by simp,by simpa using hl,by unfold maxLen at hm;omega,h5,?_⟩
 rcases Nat.eq_zero_or_pos len with h0 | h0
 ·exact .inl (by simp[h0])
 refine .inr ⟨a,rfl,?_,vG fun j y hj=>?_⟩
 ·obtain⟨_,g2,g3⟩:=hF 0 h0
  obtain⟨u,hu,_⟩:=g3 0 _ (List.getElem?_eq_getElem (by omega))
  have:=World.block_lt_of_cell? w ((a.add (0*z)).add 0) hu
  rwa[iR,iR]at this
 have hjl:=(List.getElem?_eq_some_iff.1 hj).1
 rw[h5,List.length_map,List.length_range]at hjl
 have hi:j/z<len:=Nat.div_lt_of_lt_mul (by rw[Nat.mul_comm];exact hjl)
 obtain⟨_,g2,g3⟩:=hF (j/z) hi
 have hz1:=Nat.mod_lt j hz0
 have hget:∀(rows:List (List Tr)),(∀r∈rows,T r∧r.length=z)→∀(i o:Nat) (r:List Tr),rows[i]? =some r→o<z→rows.flatten[i*z+o]? =r[o]? :=by
  intro rows
  induction rows with
  | nil=>intro _ i o r h;simp at h
  | cons r rows ih=>
   intro hr i o r' hi ho
   have hrl:=(hr r List.mem_cons_self).2
   cases i with
   | zero=>
    simp at hi
    subst hi
    rw[Nat.zero_mul,Nat.zero_add,List.flatten_cons,List.getElem?_append_left (by omega)]
   | succ i=>
    rw[List.flatten_cons,List.getElem?_append_right (by rw[Nat.succ_mul];omega),hrl,show(i+1)*z+o-z=i*z+o by rw[Nat.succ_mul];omega]
    exact ih (fun r hm=>hr r (List.mem_cons_of_mem _ hm)) i o r' (by simpa using hi) ho
 have hd:=Nat.div_add_mod j z
 rw[Nat.mul_comm]at hd
 rw[←hd,hget _ hrow (j/z) (j%z) (Classical.choose (hex (j/z))) (by simp[hi]) hz1]at hj
 obtain⟨u,hu,hy⟩:=g3 _ _ hj
 refine⟨u,?_,hy⟩
 rw[Nat.zero_add]
 have e2:(a.add (j/z*z)).add (j%z)=a.add j:=by rw[wA,hd]
 rwa[e2]at hu⟩
theorem rP {α:Type}(f:α→List Tr) (Q:α→Prop):∀{rows:List (List Tr)},(∀r∈rows,∃a,Q a∧r=f a)→∃xs:List α,(∀a∈xs,Q a)∧rows.flatten=xs.flatMap f∧rows.length=xs.length
 | [],_=>⟨[],fun _ h=>(by cases h),rfl,rfl⟩
 | r::rows,h=>by
  obtain⟨a,h1,rfl⟩:=h r List.mem_cons_self
  obtain⟨xs,h2,h3,h4⟩:=rP f Q fun r hm=>h r (List.mem_cons_of_mem _ hm)
  exact⟨a::xs,fun b hb=>(List.mem_cons.1 hb).elim (fun e=>e▸h1) (h2 b),by simp[h3],by simp[h4]⟩
theorem Yb (ht:P.underlying t=some (.slice e)) (he:P.underlying e=some (.int .u32)) (hz:P.cellsOf t=1) (hze:P.cellsOf e=1) (hn:e=113):Reads P t 1 (fun l=>∃xs:List Nat,Lim 4294967296 xs∧l=[sU false xs]):=
 (tB ht hz (by omega) (St he hze)).mono fun l ⟨rows,h1,h2⟩=>by
  obtain⟨xs,h3,h4,h5⟩:=rP (fun n:Nat=>[Tr.v (.int .u32 (n:Int))]) (fun n=>n<4294967296) (rows:=rows) fun r hr=>by
   obtain⟨⟨n,rfl,h1,h2⟩,_⟩:=h1 r hr
   have e1:IntKind.u32.min=0:=rfl
   have e2:IntKind.u32.max=4294967295:=rfl
   rw[e1]at h1
   rw[e2]at h2
   exact⟨n.toNat,by omega,by rw[Int.toNat_of_nonneg h1]⟩
  refine⟨xs,h3,?_⟩
  rw[h2,h4,h5,sU,hn]
  have:∀xs:List Nat,xs.flatMap (fun n:Nat=>[Tr.v (.int .u32 (n:Int))])=aV xs:=by
   intro xs
   induction xs with
   | nil=>rfl
   | cons n xs ih=>rw[List.flatMap_cons,ih];rfl
  rw[this]
theorem FA (hb:Reads P t z (fun l=>∃a b,l=a++b∧(∃s,a=[.v (.bool s)])∧∃b' c',b=b'++c'∧(∃xs:List Nat,Lim 4294967296 xs∧b'=[sU false xs])∧c'=[])):Reads P t z (fun l=>∃(s:Bool) (xs:List Nat),Lim 4294967296 xs∧l=[.v (.bool s),sU false xs]):=
 hb.mono fun l ⟨a,b,h1,⟨s,h2⟩,b',c',h3,⟨xs,h4,h5⟩,h6⟩=>⟨s,xs,h4,by rw[h1,h2,h3,h5,h6];rfl⟩
end
def LimF (a:Fr4):Prop:=Lim 4294967296 a.x∧Lim 4294967296 a.y
theorem LimF.ok {a:Fr4}(h:LimF a) (h2:a.x.length≤6∧a.y.length≤6):a.ok:=⟨h.1,h.2,by omega,by omega⟩
end Go.Proofs.YtbbabfkgdnkehaaGreat
namespace Go.Proofs.YtbbabfkgdnkehaaGreat
open Go Go.ChangeShapes Go.WideShapes Go.ChangeAt Go.RowKit
theorem KS:Tryz.prog.cellsOf 46=2:=by kernel_rfl
theorem Lz:Tryz.prog.cellsOf 4=1:=by kernel_rfl
theorem KT:Tryz.prog.cellsOf 113=1:=by kernel_rfl
theorem Yc:Tryz.prog.cellsOf 44=1:=by kernel_rfl
theorem Su:Reads Tryz.prog 46 2 (fun l=>∃a:Zi,Lim 4294967296 a.x∧l=TX false a):=by
 have h1:=Ly Tryz.underlying4 Lz
 have h2:=Yb Tryz.underlying44 Tryz.underlying113 Yc KT rfl
 have h3:=vF Tryz.underlying46 KS (.cons rfl h1 (.cons rfl h2 .nil))
 exact(FA h3).mono fun l ⟨s,xs,h4,h5⟩=>⟨⟨s,xs⟩,h4,h5⟩
theorem Hm {W:World}{y:Tr}{u:Value}(hu:u.cells.toList=[u]) (h:FRL W (Dn W) [y] u.cells.toList):bQ W (Dn W) [] (.one (.t y)) u:=by
 rw[hu]at h
 simp only[FRL,and_true]at h
 simpa only[bQ,AR]using h
theorem KU:Tryz.prog.cellsOf 48=4:=by kernel_rfl
theorem FB:Tryz.prog.cellsOf 60=1:=by kernel_rfl
theorem Sv:Reads Tryz.prog 48 4 (fun l=>∃a:Fr4,LimF a∧l=a.tr false):=
 (vF Tryz.underlying48 KU (.cons rfl Su (.cons rfl Su .nil))).mono fun l ⟨a,b,h1,⟨z,h2,h3⟩,b',c',h4,⟨y,h5,h6⟩,h7⟩=>⟨⟨z.s,z.x,y.s,y.x⟩,⟨h2,h5⟩,by rw[h1,h3,h4,h6,h7];rfl⟩
theorem FC:Reads Tryz.prog 60 1 (fun l=>∃xs:List Fr4,(∀x∈xs,LimF x)∧l=[sQ false xs]):=by
 have h:=tB Tryz.underlying60 FB (by omega) Sv
 refine⟨h.1,fun H enc w fuel cs x hx=>?_⟩
 obtain⟨l,⟨rows,h1,rfl⟩,h3,h4⟩:=h.2 H enc w fuel cs x hx
 obtain⟨xs,e1,e2,e3⟩:=rP (Fr4.tr false) (fun a:Fr4=>LimF a) (rows:=rows) fun r hr=>(h1 r hr).1
 refine⟨_,⟨xs,e1,rfl⟩,rfl,?_⟩
 rw[e2,e3]at h4
 cases cs with
 | nil=>simp only[FRL]at h4
 | cons v cs=>
  simp only[sQ,FRL,FR]at h4⊢
  exact h4
theorem FD:Tryz.prog.cellsOf 3=1:=by kernel_rfl
theorem Ma:Reads Tryz.prog 3 1 (fun l=>∃n:Int,(-9223372036854775808≤n∧n≤9223372036854775807)∧l=[.v (.int .i64 n)]):=
 (St Tryz.underlying3 FD).mono fun l ⟨n,h1,h2,h3⟩=>⟨n,⟨h2,h3⟩,h1⟩
theorem FE (xs:List Bool):xs.flatMap (fun b:Bool=>[Tr.v (.bool b)])=bT xs:=by
 unfold bT
 induction xs with
 | nil=>rfl
 | cons b xs ih=>rw[List.flatMap_cons,ih];rfl
theorem Sx:Tryz.prog.cellsOf 65=1:=by kernel_rfl
theorem Yd:Tryz.prog.cellsOf 67=6:=by kernel_rfl
theorem Sy:Tryz.prog.cellsOf 22=1:=by kernel_rfl
theorem Ta:Reads Tryz.prog 65 1 (fun l=>∃xs:List Bool,True∧l=[gQ xs]):=
 (tB Tryz.underlying65 Sx (by omega) (Ly Tryz.underlying4 Lz)).mono fun l ⟨rows,h1,h2⟩=>by
  obtain⟨xs,h3,h4,h5⟩:=rP (fun b:Bool=>[.v (.bool b)]) (fun _=>True) (rows:=rows) fun r hr=>(h1 r hr).1.imp fun b hb=>⟨trivial,hb⟩
  refine⟨xs,trivial,?_⟩
  rw[h2,h4,h5,FE]
  rfl
def pK (y:Yr):Prop:=(∀a∈y.b,LimF a)∧LimF y.l
theorem Ye:Reads Tryz.prog 67 6 (fun l=>∃y:Yr,pK y∧l=yrt y):=
 (vF Tryz.underlying67 Yd (.cons rfl Ta (.cons rfl FC (.cons rfl Sv .nil)))).mono
  fun l ⟨a1,b1,e1,⟨m,_,r1⟩,a2,b2,e2,⟨b,q2,r2⟩,a3,b3,e3,⟨c,q3,r3⟩,e4⟩=>⟨⟨m,b,c⟩,⟨q2,q3⟩,by rw[e1,r1,e2,r2,e3,r3,e4];rfl⟩
theorem Tb:Reads Tryz.prog 22 1 (fun l=>∃xs:List Yr,(∀x∈xs,pK x)∧l=[kH xs]):=
 (tB Tryz.underlying22 Sy (by omega) Ye).mono fun l ⟨rows,h1,h2⟩=>by
  obtain⟨xs,h3,h4,h5⟩:=rP yrt pK (rows:=rows) fun r hr=>(h1 r hr).1
  exact⟨xs,h3,by rw[h2,h4,h5];rfl⟩
end Go.Proofs.YtbbabfkgdnkehaaGreat
