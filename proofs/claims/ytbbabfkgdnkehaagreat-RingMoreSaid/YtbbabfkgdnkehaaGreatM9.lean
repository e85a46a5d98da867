/- Part 9 of a proof: Ve to A3. -/
import Derived.Test.YtbbabfkgdnkehaaGreatM8
import Derived.Test.YtbbabfkgdnkehaaGreatM7
import Derived.Laws.BytesArg
import Derived.Test.YtbbabfkgdnkehaaGreatM5
set_option maxRecDepth 100000
set_option linter.unusedVariables false
set_option linter.unusedSimpArgs false
namespace Go.Proofs.YtbbabfkgdnkehaaGreat
open Go Go.RowKit
structure Ur where
 v:Int
 e:Int
 y:Int
 n:Rat
def lU (U:List Ur) (p:Ur→Bool):Rat:=mS ((U.filter p).map Ur.n)
theorem sZ {U:List Ur}{u:Ur}{p:Ur→Bool}:lU (U++[u]) p=if p u then lU U p+u.n else lU U p:=by
 unfold lU
 rw[List.filter_append,List.map_append]
 split
 ·rename_i h
  rw[List.filter_cons_of_pos h]
  exact Uq _ _
 rename_i h
 rw[List.filter_cons_of_neg h]
 simp
def qC (U:List Ur) (y e:Int):Rat:=lU U fun u=>decide (u.v=y)&&decide (u.e=e)
def eW (U:List Ur) (y:Int):Rat:=lU U fun u=>decide (u.y=y)
def jI (U:List Ur) (y e:Int):Rat:=lU U fun u=>decide (u.y=y)&&decide (u.e=e)
structure Rg where
 f:Nat
 E:Nat
 mem:Nat→Nat→Bool
 base:Nat→Nat→Rat
 lim:Nat→Rat
namespace Rg
def isV (R:Rg) (y e:Nat):Bool:= !R.mem y e&&decide (R.base y e<0)
def los (R:Rg) (y e:Nat):Rat:=bif R.isV y e then-(R.base y e)else 0
def left (R:Rg) (U:List Ur) (y e:Nat):Rat:=R.los y e-qC U y e
def room (R:Rg) (U:List Ur) (e t:Nat):Rat:=aM (R.base t e-jI U t e) [R.lim t-eW U t]
def us (U:List Ur) (y e:Int) (t:Nat) (n:Rat):List Ur:=if 0<n then U++[⟨y,e,t,n⟩]else U
def use (R:Rg) (U:List Ur) (y e t:Nat):List Ur:=us U y e t (aM (R.left U y e) [R.room U e t])
def vl (R:Rg):Nat→List (Nat×Nat)
 | 0=>[]
 | y+1=>R.vl y++((List.range R.E).filter (R.isV y)).map fun e=>(y,e)
def may (R:Rg) (t:Nat) (p:Nat×Nat):Bool:=decide (t≤p.1+R.f)&&R.mem t p.2
def step (R:Rg) (U:List Ur) (t:Nat):List Ur:=((R.vl t).filter (R.may t)).foldl (fun U p=>R.use U p.1 p.2 t) U
def run (R:Rg):Nat→List Ur
 | 0=>[]
 | t+1=>R.step (R.run t) t
def DE (R:Rg) (y:Nat):Nat→Nat
 | 0=>1
 | e+1=>R.DE y e*(R.base y e).den
def DY (R:Rg):Nat→Nat
 | 0=>1
 | y+1=>R.DY y*((R.lim y).den*R.DE y R.E)
structure Ok (R:Rg) (N:Nat):Prop where
 base:∀y e,y<N→e<R.E→Sz 4 (R.base y e)
 lim:∀y,y<N→Sz 4 (R.lim y)
 l0:∀y,y<N→0≤R.lim y
 n:N≤10
 e:R.E≤6
 f:R.f≤40
structure Iv (R:Rg) (N:Nat) (U:List Ur):Prop where
 v:∀y e,y<N→e<R.E→(0≤R.left U y e∧R.left U y e≤R.los y e)∧Mu (R.DY N) (R.left U y e)
 b:∀t e,t<N→e<R.E→(0≤jI U t e∧jI U t e≤Vd (R.base t e))∧Mu (R.DY N) (jI U t e)
 y:∀t,t<N→(0≤eW U t∧eW U t≤R.lim t)∧Mu (R.DY N) (eW U t)
end Rg
section
variable {R:Rg}{U:List Ur}{N y y' e e' t t' k n:Nat}{m:Rat}{I J:List Nat}
open Rg
theorem wH {y e y' e':Int}:qC (U++[⟨y,e,(t:Int),m⟩]) y' e'=if y=y'∧e=e' then qC U y' e'+m else qC U y' e':=by
 unfold qC
 rw[sZ]
 simp only[Bool.and_eq_true,decide_eq_true_eq]
theorem Bl {y e:Int}{t':Int}:eW (U++[⟨y,e,(t:Int),m⟩]) t'=if(t:Int)=t' then eW U t'+m else eW U t':=by
 unfold eW
 rw[sZ]
 simp only[decide_eq_true_eq]
theorem wJ {y e:Int}{t' e':Int}:jI (U++[⟨y,e,(t:Int),m⟩]) t' e'=if(t:Int)=t'∧e=e' then jI U t' e'+m else jI U t' e':=by
 unfold jI
 rw[sZ]
 simp only[Bool.and_eq_true,decide_eq_true_eq]
theorem wS {y e:Int}(h:¬0<m):us U y e t m=U:=if_neg h
theorem lQ {y e:Int}(h:0<m):us U y e t m=U++[⟨y,e,t,m⟩]:=if_pos h
theorem Nz (h:0≤m):R.left (us U y e t m) y e=R.left U y e-m:=by
 by_cases hp:0<m
 ·rw[lQ hp]
  unfold Rg.left
  rw[wH,if_pos ⟨rfl,rfl⟩]
  grind
 rw[wS hp]
 grind
theorem lT (h:¬(y=y'∧e=e')):R.left (us U y e t m) y' e'=R.left U y' e':=by
 by_cases hp:0<m
 ·rw[lQ hp]
  unfold Rg.left
  rw[wH,if_neg (by omega)]
 rw[wS hp]
theorem vZ (h:¬(y=y'∧e=e')):R.left (R.use U y e t) y' e'=R.left U y' e':=lT h
theorem NF:0≤R.los y e:=by
 unfold Rg.los Rg.isV
 cases R.mem y e
 ·by_cases h:R.base y e<0
  ·simp[h]
   grind
  simp[h]
 simp
theorem zT (h:R.isV y e=false):R.los y e=0:=by unfold Rg.los;rw[h];rfl
theorem wT (h:R.isV y e=true):R.los y e=-(R.base y e)∧0<R.los y e:=by
 have e1:R.los y e=-(R.base y e):=by unfold Rg.los;rw[h];rfl
 refine⟨e1,?_⟩
 rw[e1]
 unfold Rg.isV at h
 simp at h
 grind
theorem gH {p:Nat×Nat}:∀{t:Nat},p∈R.vl t↔p.1<t∧p.2<R.E∧R.isV p.1 p.2=true
 | 0=>by simp[Rg.vl]
 | t+1=>by
  unfold Rg.vl
  rw[List.mem_append,gH (t:=t)]
  constructor
  ·rintro(h | h)
   ·exact⟨by omega,h.2⟩
   obtain⟨e,he,rfl⟩:=List.mem_map.1 h
   rw[List.mem_filter,List.mem_range]at he
   exact⟨by dsimp only;omega,he⟩
  rintro⟨h1,h2,h3⟩
  by_cases h:p.1<t
  ·exact .inl ⟨h,h2,h3⟩
  refine .inr (List.mem_map.2 ⟨p.2,?_,?_⟩)
  ·rw[List.mem_filter,List.mem_range]
   have:p.1=t:=by omega
   rw[←this]
   exact⟨h2,h3⟩
  exact Prod.ext (by dsimp only;omega) rfl
def NG (p q:Nat×Nat):Prop:=p.1<q.1∨(p.1=q.1∧p.2<q.2)
theorem Jx:∀t:Nat,(R.vl t).Pairwise NG
 | 0=>List.Pairwise.nil
 | t+1=>by
  unfold Rg.vl
  refine List.pairwise_append.2 ⟨Jx t,?_,fun p hp q hq=>?_⟩
  ·rw[List.pairwise_map]
   exact(List.pairwise_lt_range.filter _).imp fun h=>.inr ⟨rfl,h⟩
  obtain⟨e,he,rfl⟩:=List.mem_map.1 hq
  exact .inl (gH.1 hp).1
theorem pI (t:Nat):(R.vl t).Nodup:=(Jx t).imp fun h e=>by subst e;unfold NG at h;omega
theorem rL (h:R.E≤6):∀t:Nat,(R.vl t).length≤6*t
 | 0=>Nat.le_refl _
 | t+1=>by
  have h1:=rL h t
  have h2:=List.length_filter_le (R.isV t) (List.range R.E)
  unfold Rg.vl
  rw[List.length_append,List.length_map]
  rw[List.length_range]at h2
  omega
theorem Vg:∀e,0<R.DE y e
 | 0=>Nat.one_pos
 | e+1=>Nat.mul_pos (Vg e) (R.base y e).den_pos
theorem Vh:∀t,0<R.DY t
 | 0=>Nat.one_pos
 | t+1=>Nat.mul_pos (Vh t) (Nat.mul_pos (R.lim t).den_pos (Vg _))
theorem CM:∀{k:Nat},e<k→Mu (R.DE y k) (R.base y e)
 | k+1,h=>by
  rcases Nat.lt_succ_iff_lt_or_eq.1 h with h | rfl
  ·exact(CM h).up'
  exact(Mu.self _).up
theorem Cu:∀{N:Nat},y<N→e<R.E→Mu (R.DY N) (R.base y e)
 | N+1,h,he=>by
  rcases Nat.lt_succ_iff_lt_or_eq.1 h with h | rfl
  ·exact(Cu h he).up'
  exact((CM he).up).up
theorem Oa:∀{N:Nat},y<N→Mu (R.DY N) (R.lim y)
 | N+1,h=>by
  rcases Nat.lt_succ_iff_lt_or_eq.1 h with h | rfl
  ·exact(Oa h).up'
  exact((Mu.self _).up').up
theorem Oc (h:y<N) (he:e<R.E):Mu (R.DY N) (R.los y e):=by
 unfold Rg.los
 cases R.isV y e
 ·exact Mu.zero
 exact(Cu h he).neg
theorem NH (h:∀e,e<k→Sz 4 (R.base y e)):(dg 4294967296 (R.DE y k)).length≤1+4*k:=by
 induction k with
 | zero=>exact cR (by omega) (by simp[Rg.DE])
 | succ k ih=>
  have h1:=ih fun e he=>h e (by omega)
  have h2:=(h k (by omega)).2
  have h4:=mE (R.DE y k) (R.base y k).den
  unfold Rg.DE
  omega
theorem Vi (hE:R.E≤6):∀{N:Nat},(∀y e,y<N→e<R.E→Sz 4 (R.base y e))→(∀y,y<N→Sz 4 (R.lim y))→(dg 4294967296 (R.DY N)).length≤1+29*N
 | 0,_,_=>cR (by omega) (by simp[Rg.DY])
 | N+1,h,h'=>by
  have h1:=Vi hE (N:=N) (fun y e hy he=>h y e (by omega) he) fun y hy=>h' y (by omega)
  have h2:=(h' N (by omega)).2
  have h3:=NH (R:=R) (y:=N) (k:=R.E) fun e he=>h N e (by omega) he
  have h4:=mE (R.DY N) ((R.lim N).den*R.DE N R.E)
  have h5:=mE (R.lim N).den (R.DE N R.E)
  show(dg 4294967296 (R.DY N*((R.lim N).den*R.DE N R.E))).length≤_
  omega
theorem Rg.Ok.sz (h:R.Ok N){q:Rat}(h0:0≤q) (hB:q≤(BB:Rat)) (hm:Mu (R.DY N) q):Sz 300 q:=hm.sz h0 hB (Vh N) (by have:=Vi h.e h.base h.lim;have:=h.n;have:=NA;omega)
theorem Vj:(0:Rat)≤(BB:Rat):=by exact_mod_cast Nat.zero_le BB
theorem Rg.Ok.los_le (h:R.Ok N) (hy:y<N) (he:e<R.E):R.los y e≤(BB:Rat):=by
 have h1:-(R.base y e)≤(BB:Rat):=Qi (zW (h.base y e hy he))
 have:=Vj
 unfold Rg.los
 cases R.isV y e
 ·exact this
 exact h1
theorem Rg.Ok.abv_le (h:R.Ok N) (hy:y<N) (he:e<R.E):Vd (R.base y e)≤(BB:Rat):=by
 have h1:=Qi (h.base y e hy he)
 have:=Vj
 rw[Jq]
 split <;> grind
theorem Rg.Iv.sz_left (hI:R.Iv N U) (h:R.Ok N) (hy:y<N) (he:e<R.E):Sz 300 (R.left U y e):=h.sz (hI.v y e hy he).1.1 (Rat.le_trans (hI.v y e hy he).1.2 (h.los_le hy he)) (hI.v y e hy he).2
theorem Rg.Iv.sz_eIn (hI:R.Iv N U) (h:R.Ok N) (ht:t<N) (he:e<R.E):Sz 300 (jI U t e):=h.sz (hI.b t e ht he).1.1 (Rat.le_trans (hI.b t e ht he).1.2 (h.abv_le ht he)) (hI.b t e ht he).2
theorem Rg.Iv.sz_yIn (hI:R.Iv N U) (h:R.Ok N) (ht:t<N):Sz 300 (eW U t):=h.sz (hI.y t ht).1.1 (Rat.le_trans (hI.y t ht).1.2 (Qi (h.lim t ht))) (hI.y t ht).2
theorem NI:qC U y e=R.los y e-R.left U y e:=by unfold Rg.left;grind
theorem Rg.Iv.sz_vOf (hI:R.Iv N U) (h:R.Ok N) (hy:y<N) (he:e<R.E):Sz 300 (qC U y e):=by
 obtain⟨⟨h1,h2⟩,h3⟩:=hI.v y e hy he
 have h4:=h.los_le hy he
 rw[NI (R:=R)]
 exact h.sz (by grind) (by grind) ((Oc hy he).sub h3)
theorem Rg.Iv.nil (h:R.Ok N):R.Iv N []:=by
 refine⟨fun y e hy he=>?_,fun t e ht he=>?_,fun t ht=>?_⟩
 ·have e1:R.left [] y e=R.los y e:=by
   unfold Rg.left
   show R.los y e-0=_
   grind
  rw[e1]
  exact⟨⟨NF,Rat.le_refl⟩,Oc hy he⟩
 ·exact⟨⟨Rat.le_refl,MW _⟩,.zero⟩
 exact⟨⟨Rat.le_refl,h.l0 t ht⟩,.zero⟩
theorem AF:R.room U e t≤R.base t e-jI U t e:=pJ _ _
theorem AG:R.room U e t≤R.lim t-eW U t:=Js _ _
theorem Rg.Iv.us (hI:R.Iv N U) (hy:y<N) (he:e<R.E) (ht:t<N) (h1:m≤R.left U y e) (h2:m≤R.room U e t) (hm:Mu (R.DY N) m):R.Iv N (us U y e t m):=by
 by_cases h0:0<m
 ·have h3:=Rat.le_trans h2 AF
  have h4:=Rat.le_trans h2 AG
  refine⟨fun y' e' hy' he'=>?_,fun t' e' ht' he'=>?_,fun t' ht'=>?_⟩
  ·obtain⟨⟨k1,k2⟩,k3⟩:=hI.v y' e' hy' he'
   by_cases hq:y=y'∧e=e'
   ·obtain⟨rfl,rfl⟩:=hq
    rw[Nz (by grind)]
    exact⟨⟨by grind,by grind⟩,k3.sub hm⟩
   rw[lT hq]
   exact⟨⟨k1,k2⟩,k3⟩
  ·obtain⟨⟨k1,k2⟩,k3⟩:=hI.b t' e' ht' he'
   rw[lQ h0,wJ]
   split
   ·rename_i hq
    have e1:t=t':=by omega
    have e2:e=e':=by omega
    subst e1
    subst e2
    refine⟨⟨by grind,?_⟩,k3.add hm⟩
    rw[MX (by grind)]
    grind
   exact⟨⟨k1,k2⟩,k3⟩
  obtain⟨⟨k1,k2⟩,k3⟩:=hI.y t' ht'
  rw[lQ h0,Bl]
  split
  ·rename_i hq
   have e1:t=t':=by omega
   subst e1
   exact⟨⟨by grind,by grind⟩,k3.add hm⟩
  exact⟨⟨k1,k2⟩,k3⟩
 rw[wS h0]
 exact hI
theorem Hl (hI:R.Iv N U) (he:e<R.E) (ht:t<N):Mu (R.DY N) (R.room U e t):=((Cu ht he).sub (hI.b t e ht he).2).min ((Oa ht).sub (hI.y t ht).2)
theorem Rg.Iv.use (hI:R.Iv N U) (hy:y<N) (he:e<R.E) (ht:t<N):R.Iv N (R.use U y e t):=hI.us hy he ht (pJ _ _) (Js _ _) ((hI.v y e hy he).2.min (Hl hI he ht))
theorem Rg.Iv.fold (ht:t<N):∀(L:List (Nat×Nat)){U:List Ur},R.Iv N U→(∀p∈L,p.1<N∧p.2<R.E)→R.Iv N (L.foldl (fun U p=>R.use U p.1 p.2 t) U)
 | [],_,h,_=>h
 | p::L,U,h,hL=>by
  have h1:=hL p (List.mem_cons_self ..)
  exact Rg.Iv.fold ht L (h.use h1.1 h1.2 ht) fun q hq=>hL q (List.mem_cons_of_mem _ hq)
theorem Rg.Iv.step (hI:R.Iv N U) (ht:t<N):R.Iv N (R.step U t):=hI.fold ht _ fun p hp=>by
 have:=gH.1 (List.mem_filter.1 hp).1
 exact⟨by omega,this.2.1⟩
theorem Rg.Ok.run (h:R.Ok N):∀{k:Nat},k≤N→R.Iv N (R.run k)
 | 0,_=>.nil h
 | k+1,hk=>(Rg.Ok.run h (k:=k) (by omega)).step (by omega)
end
def Rg.wl (R:Rg) (U:List Ur) (e:Nat) (I:List Nat):List (Int×Rat):=I.filterMap fun y=>if 0<R.left U y e then some ((y:Int),R.left U y e)else none
def Rg.I (R:Rg) (t:Nat):List Nat:=List.range' (t-R.f) (t-(t-R.f))
def Rg.J (R:Rg) (t:Nat):List Nat:=(R.I t++[t]).filter fun(i:Nat)=> !(!decide ((i:Int)<(t:Int)-(R.f:Int)+1))
section
variable {R:Rg}{U U':List Ur}{N y y' e e' t t' k n:Nat}{m:Rat}{I J:List Nat}
open Rg
theorem jD {i:Nat}:i∈R.I k↔i<k∧k≤i+R.f:=by
 unfold Rg.I
 rw[List.mem_range'_1]
 omega
theorem Oz:(R.I k).Pairwise (· < ·):=List.pairwise_lt_range' ..
theorem rJ:(R.I k).length≤k:=by
 unfold Rg.I
 rw[List.length_range']
 omega
theorem iP (h:0<R.left U y e):R.wl U e (y::I)=((y:Int),R.left U y e)::R.wl U e I:=by
 unfold Rg.wl
 rw[List.filterMap_cons,if_pos h]
theorem kP (h:¬0<R.left U y e):R.wl U e (y::I)=R.wl U e I:=by
 unfold Rg.wl
 rw[List.filterMap_cons,if_neg h]
theorem yE:∀{I:List Nat},(∀i∈I,R.left U i e=R.left U' i e)→R.wl U e I=R.wl U' e I
 | [],_=>rfl
 | i::I,h=>by
  have e1:=h i (List.mem_cons_self ..)
  have ih:=yE (I:=I) fun j hj=>h j (List.mem_cons_of_mem _ hj)
  by_cases hp:0<R.left U i e
  ·rw[iP hp,iP (by rw[←e1];exact hp),e1,ih]
  rw[kP hp,kP (by rw[←e1];exact hp),ih]
theorem EM:R.wl U e (I++J)=R.wl U e I++R.wl U e J:=by simp[Rg.wl]
theorem hG {x:Int×Rat}:x∈R.wl U e I↔∃i∈I,x=((i:Int),R.left U i e)∧0<R.left U i e:=by
 unfold Rg.wl
 rw[List.mem_filterMap]
 constructor
 ·rintro⟨i,hi,h⟩
  split at h
  ·rename_i hp
   injection h with h
   exact⟨i,hi,h.symm,hp⟩
  cases h
 rintro⟨i,hi,rfl,hp⟩
 exact⟨i,hi,if_pos hp⟩
theorem rK:(R.wl U e I).length≤I.length:=List.length_filterMap_le ..
theorem Bf {p:Int→Bool}:(R.wl U e I).filter (fun x=>p x.1)=R.wl U e (I.filter fun(i:Nat)=>p (i:Int)):=by
 induction I with
 | nil=>rfl
 | cons i I ih=>
  by_cases hp:0<R.left U i e
  ·rw[iP hp]
   cases hq:p (i:Int)with
   | true=>rw[List.filter_cons_of_pos (by exact hq),List.filter_cons_of_pos (by exact hq),iP hp,ih]
   | false=>rw[List.filter_cons_of_neg (by simp[hq]),List.filter_cons_of_neg (by simp[hq]),ih]
  rw[kP hp,ih]
  cases hq:p (i:Int)with
  | true=>rw[List.filter_cons_of_pos (by exact hq),kP hp]
  | false=>rw[List.filter_cons_of_neg (by simp[hq])]
theorem GU:R.I (k+1)=(R.I k++[k]).filter fun(i:Nat)=> !decide ((i:Int)<(k:Int)-(R.f:Int)+1):=by
 have e1:R.I k++[k]=List.range' (k-R.f) (k+1-(k-R.f)):=by
  unfold Rg.I
  rw[show k+1-(k-R.f)=(k-(k-R.f))+1 by omega,List.range'_concat,show k-R.f+1*(k-(k-R.f))=k by omega]
 rw[e1]
 unfold Rg.I
 by_cases h:k<R.f
 ·rw[show k+1-R.f=0 by omega,show k-R.f=0 by omega]
  symm
  rw[List.filter_eq_self]
  intro i hi
  simp
  omega
 rw[show k+1-(k-R.f)=R.f+1 by omega,List.range'_succ,List.filter_cons_of_neg (by simp;omega),show k+1-(k+1-R.f)=R.f by omega,show k-R.f+1=k+1-R.f by omega]
 symm
 rw[List.filter_eq_self]
 intro i hi
 have:=List.mem_range'_1.1 hi
 simp
 omega
theorem KJ:dO (fun x:Int×Rat=>decide (x.1<(t:Int)-(R.f:Int)+1)) (R.wl U e (R.I t++[t]))=R.wl U e (R.I (t+1)):=by
 unfold dO
 rw[Bf (p:=fun z=> !decide (z<(t:Int)-(R.f:Int)+1)),GU]
theorem KK:dO (fun x:Int×Rat=> !decide (x.1<(t:Int)-(R.f:Int)+1)) (R.wl U e (R.I t++[t]))=R.wl U e (R.J t):=by
 unfold dO
 rw[Bf (p:=fun z=> !(!decide (z<(t:Int)-(R.f:Int)+1)))]
 rfl
theorem Hc {i:Nat}:i∈R.J t↔i+R.f=t:=by
 unfold Rg.J
 rw[List.mem_filter,List.mem_append,jD,List.mem_singleton]
 simp only[Bool.not_not,decide_eq_true_eq]
 omega
theorem Eg {fr:Int}:∀l:List (Int×Rat),aY fr l 0=(l,[],0)
 | []=>rfl
 | x::l=>by
  rw[Nu (fun h=>by exact absurd h.2 (by grind)),Eg l]
theorem Lj (hm:0<m) (hle:m≤R.left U y e):∀{I:List Nat},(∀i∈I,0≤R.left U i e)→I.Pairwise (· < ·)→y∈I→(aY (y:Int) (R.wl U e I) m).1.filter (fun x=> !lS x.1 x.2)=R.wl (us U y e t m) e I
 | [],_,_,h=>by cases h
 | i::I,h0,hp,h=>by
  have hp1:=List.pairwise_cons.1 hp
  have fl:∀L:List (Int×Rat),(∀x∈L,0<x.2)→L.filter (fun x=> !lS x.1 x.2)=L:=fun L hL=>by
   rw[List.filter_eq_self]
   intro x hx
   simp only[lS,Bool.not_eq_true',decide_eq_false_iff_not]
   have:=(kB _).2 (hL x hx)
   omega
  by_cases hi:i=y
  ·subst hi
   have hpos:0<R.left U i e:=by grind
   rw[iP hpos,AD (x:=((i:Int),R.left U i e)) (Int.le_refl _) hm]
   have hq:aM (R.left U i e) [m]=m:=by rw[Fi];split <;> grind
   dsimp only
   rw[hq,show m-m=(0:Rat) by grind,Eg]
   dsimp only
   have hrest:R.wl (us U i e t m) e I=R.wl U e I:=yE fun j hj=>lT (by have:=hp1.1 j hj;omega)
   have hfl:=fl (R.wl U e I) fun x hx=>by
    obtain⟨j,_,rfl,h9⟩:=hG.1 hx
    exact h9
   have hl:=Nz (R:=R) (U:=U) (y:=i) (e:=e) (t:=t) (m:=m) (by grind)
   by_cases hz:0<R.left U i e-m
   ·rw[List.filter_cons_of_pos (by simp only[lS,Bool.not_eq_true',decide_eq_false_iff_not];have:=(kB _).2 hz;omega),hfl,iP (by rw[hl];exact hz),hl,hrest]
   have hz0:R.left U i e-m=0:=by grind
   rw[List.filter_cons_of_neg (by rw[hz0];simp[lS]),hfl,kP (by rw[hl];exact hz),hrest]
  have hyI:y∈I:=by
   rcases List.mem_cons.1 h with h | h
   ·exact absurd h.symm hi
   exact h
  have hlt:=hp1.1 y hyI
  have ih:=Lj (I:=I) hm hle (fun j hj=>h0 j (List.mem_cons_of_mem _ hj)) hp1.2 hyI
  have hsame:=lT (R:=R) (U:=U) (t:=t) (m:=m) (y:=y) (e:=e) (y':=i) (e':=e) (by omega)
  by_cases hpos:0<R.left U i e
  ·rw[iP hpos,Nu (x:=((i:Int),R.left U i e)) (fun h9=>by have:=h9.1;dsimp only at this;omega)]
   dsimp only
   rw[List.filter_cons_of_pos (by simp only[lS,Bool.not_eq_true',decide_eq_false_iff_not];have:=(kB _).2 hpos;omega),ih,iP (by rw[hsame];exact hpos),hsame]
  rw[kP hpos,ih,kP (by rw[hsame];exact hpos)]
def Rg.wv (R:Rg) (U:List Ur) (p:Nat×Nat):Wv:=⟨p.1,p.2,R.left U p.1 p.2⟩
def Rg.wt0 (R:Rg) (U:List Ur) (t k:Nat):List Wv:=(List.range k).flatMap fun e=>bif R.mem t e then(R.wl U e (R.I t)).map fun x=>(⟨x.1,e,x.2⟩:Wv)else []
def Rg.wt (R:Rg) (U:List Ur) (t:Nat):List (Nat×Nat):=(R.vl t).filter fun p=>R.may t p&&decide (0<R.left U p.1 p.2)
theorem GV {x:Wv}:x∈R.wt0 U t k↔∃y e:Nat,e<k∧R.mem t e=true∧y∈R.I t∧0<R.left U y e∧x=⟨y,e,R.left U y e⟩:=by
 unfold Rg.wt0
 rw[List.mem_flatMap]
 constructor
 ·rintro⟨e,he,hx⟩
  rw[List.mem_range]at he
  cases hm:R.mem t e
  ·rw[hm]at hx
   cases hx
  rw[hm]at hx
  obtain⟨z,hz,rfl⟩:=List.mem_map.1 hx
  obtain⟨y,hy,rfl,hp⟩:=hG.1 hz
  exact⟨y,e,he,hm,hy,hp,rfl⟩
 rintro⟨y,e,he,hm,hy,hp,rfl⟩
 refine⟨e,List.mem_range.2 he,?_⟩
 rw[hm]
 exact List.mem_map.2 ⟨((y:Int),R.left U y e),hG.2 ⟨y,hy,rfl,hp⟩,rfl⟩
theorem Vk {α:Type}{f:α→Int}:∀{A B:List α},A.Pairwise (fun x y=>f x<f y)→B.Pairwise (fun x y=>f x<f y)→(∀x,x∈A↔x∈B)→A=B
 | [],[],_,_,_=>rfl
 | [],y::B,_,_,h=>absurd ((h y).2 (List.mem_cons_self ..)) (by simp)
 | x::A,[],_,_,h=>absurd ((h x).1 (List.mem_cons_self ..)) (by simp)
 | x::A,y::B,hA,hB,h=>by
  have h1:=List.pairwise_cons.1 hA
  have h2:=List.pairwise_cons.1 hB
  have e1:x=y:=by
   rcases List.mem_cons.1 ((h x).1 (List.mem_cons_self ..))with h3 | h3
   ·exact h3
   rcases List.mem_cons.1 ((h y).2 (List.mem_cons_self ..))with h4 | h4
   ·exact h4.symm
   have:=h1.1 y h4
   have:=h2.1 x h3
   omega
  subst e1
  congr 1
  refine Vk h1.2 h2.2 fun z=>?_
  constructor
  ·intro hz
   rcases List.mem_cons.1 ((h z).1 (List.mem_cons_of_mem _ hz))with rfl | h3
   ·exact absurd (h1.1 z hz) (by omega)
   exact h3
  intro hz
  rcases List.mem_cons.1 ((h z).2 (List.mem_cons_of_mem _ hz))with rfl | h3
  ·exact absurd (h2.1 z hz) (by omega)
  exact h3
theorem Lp (hI:I.Pairwise (· < ·)):(R.wl U e I).Pairwise fun x y=>x.1<y.1:=by
 induction I with
 | nil=>exact List.Pairwise.nil
 | cons i I ih=>
  have h1:=List.pairwise_cons.1 hI
  by_cases hp:0<R.left U i e
  ·rw[iP hp]
   refine List.pairwise_cons.2 ⟨fun x hx=>?_,ih h1.2⟩
   obtain⟨j,hj,rfl,_⟩:=hG.1 hx
   have:=h1.1 j hj
   dsimp only
   omega
  rw[kP hp]
  exact ih h1.2
theorem GW:(R.wt0 U t k).Pairwise fun x y=>x.e<y.e∨(x.e=y.e∧x.y<y.y):=by
 unfold Rg.wt0
 refine List.pairwise_flatMap.2 ⟨fun e _=>?_,List.pairwise_lt_range.imp fun{a b} h x hx y hy=>?_⟩
 ·cases R.mem t e
  ·exact List.Pairwise.nil
  show((R.wl U e (R.I t)).map fun x=>(⟨x.1,e,x.2⟩:Wv)).Pairwise _
  rw[List.pairwise_map]
  exact(Lp Oz).imp fun h=>.inr ⟨rfl,h⟩
 have hx1:x.e=(a:Int):=by
  cases h9:R.mem t a <;> rw[h9]at hx
  ·cases hx
  obtain⟨z,_,rfl⟩:=List.mem_map.1 hx
  rfl
 have hy1:y.e=(b:Int):=by
  cases h9:R.mem t b <;> rw[h9]at hy
  ·cases hy
  obtain⟨z,_,rfl⟩:=List.mem_map.1 hy
  rfl
 omega
theorem Vl:((R.wt U t).map (R.wv U)).Pairwise fun x y=>x.y<y.y∨(x.y=y.y∧x.e<y.e):=by
 rw[List.pairwise_map]
 refine List.Pairwise.imp (fun{p q} h=>?_) ((Jx t).filter _)
 unfold NG at h
 unfold Rg.wv
 dsimp only
 omega
theorem JY (hI:R.Iv N U) (ht:t≤N):cY (R.wt0 U t R.E)=(R.wt U t).map (R.wv U):=by
 refine pU (Vl.imp fun h=>by omega) fun z=>?_
 refine Vk (f:=Wv.e) ?_ ?_ fun x=>?_
 ·refine List.Pairwise.imp_of_mem (fun{a b} ha hb h=>?_) (Vl.filter _)
  have h1:=of_decide_eq_true (List.mem_filter.1 ha).2
  have h2:=of_decide_eq_true (List.mem_filter.1 hb).2
  omega
 ·refine List.Pairwise.imp_of_mem (fun{a b} ha hb h=>?_) (GW.filter _)
  have h1:=of_decide_eq_true (List.mem_filter.1 ha).2
  have h2:=of_decide_eq_true (List.mem_filter.1 hb).2
  omega
 rw[List.mem_filter,List.mem_filter,GV,List.mem_map]
 constructor
 ·rintro⟨⟨p,hp,rfl⟩,hz⟩
  refine⟨⟨p.1,p.2,?_⟩,hz⟩
  unfold Rg.wt at hp
  rw[List.mem_filter,gH]at hp
  obtain⟨⟨h1,h2,h3⟩,h4⟩:=hp
  unfold Rg.may at h4
  simp only[Bool.and_eq_true,decide_eq_true_eq]at h4
  exact⟨h2,h4.1.2,jD.2 ⟨h1,h4.1.1⟩,h4.2,rfl⟩
 rintro⟨⟨y,e,h1,h2,h3,h4,rfl⟩,hz⟩
 refine⟨⟨(y,e),?_,rfl⟩,hz⟩
 have h5:=jD.1 h3
 have h6:=(hI.v y e (by omega) h1).1.2
 have h7:R.isV y e=true:=by
  cases h8:R.isV y e
  ·rw[zT h8]at h6
   grind
  rfl
 unfold Rg.wt
 rw[List.mem_filter,gH]
 refine⟨⟨h5.1,h1,h7⟩,?_⟩
 unfold Rg.may
 simp only[Bool.and_eq_true,decide_eq_true_eq]
 exact⟨⟨h5.2,h2⟩,h4⟩
theorem AH (h:R.left U y e≤0):R.use U y e t=U:=wS (by have:=pJ (R.left U y e) (R.room U e t);grind)
theorem EF (hI:R.Iv N U) (ht:t<N):R.step U t=(R.wt U t).foldl (fun U p=>R.use U p.1 p.2 t) U:=by
 have gen:∀(L:List (Nat×Nat)) (V:List Ur),L.Nodup→(∀p∈L,R.left V p.1 p.2=R.left U p.1 p.2)→(L.filter (R.may t)).foldl (fun U p=>R.use U p.1 p.2 t) V=(L.filter fun p=>R.may t p&&decide (0<R.left U p.1 p.2)).foldl (fun U p=>R.use U p.1 p.2 t) V:=by
  intro L
  induction L with
  | nil=>intro V _ _;rfl
  | cons p L ih=>
   intro V hn hV
   obtain⟨hp,hn⟩:=List.nodup_cons.1 hn
   have hVp:=hV p (List.mem_cons_self ..)
   cases hm:R.may t p
   ·rw[List.filter_cons_of_neg (by simp[hm]),List.filter_cons_of_neg (by simp[hm])]
    exact ih V hn fun q hq=>hV q (List.mem_cons_of_mem _ hq)
   rw[List.filter_cons_of_pos hm]
   by_cases h0:0<R.left U p.1 p.2
   ·rw[List.filter_cons_of_pos (by simp[hm,h0]),List.foldl_cons,List.foldl_cons]
    refine ih _ hn fun q hq=>?_
    rw[vZ (fun h9=>hp (by rw[show p=q from Prod.ext h9.1 h9.2];exact hq))]
    exact hV q (List.mem_cons_of_mem _ hq)
   rw[List.filter_cons_of_neg (by simp[hm,h0]),List.foldl_cons,AH (by rw[hVp];grind)]
   exact ih V hn fun q hq=>hV q (List.mem_cons_of_mem _ hq)
 exact gen _ U (pI t) fun _ _=>rfl
theorem sX {p:Nat×Nat}:∀(L:List (Nat×Nat)) (V:List Ur),p∉L→R.left (L.foldl (fun U p=>R.use U p.1 p.2 t) V) p.1 p.2=R.left V p.1 p.2
 | [],_,_=>rfl
 | q::L,V,h=>by
  rw[List.foldl_cons,sX L _ fun h9=>h (List.mem_cons_of_mem _ h9)]
  exact vZ fun h9=>h (by rw[show p=q from(Prod.ext h9.1 h9.2).symm];exact List.mem_cons_self ..)
end
def fl (q:Rat):Int:=q.floor
section
variable {f:Nat→Rat}{x y z:Nat}
end
section
variable {f:Nat→Rat}{n i s t:Nat}
variable {b:Int}
end
section
variable {l:List Rat}{i k t:Nat}
end
section
variable {l:List Rat}{i k:Nat}
end
section
variable {l l':List Nat}{i j:Nat}
end
section
variable {x:Cx}{g:Nat→FV}{ob ob':List (Option Ob)}{cs:List Co}{ts:Array Value}{W:World}{T:List (Nat×TI)}{Q:Post}{ops:Array Oper}{rest:List Oper}{d:Nat}{ty:TypeId}{pos:String}{af:Array Edge}{gd:Option (Nat×Bool)}
end
theorem iJ {fresh:Bool}{x:Cx}{T:List (Nat×TI)}{rv:List ResultVar}{e:Exit}{g:Nat→FV}{ob:List (Option Ob)}{b b':Bool}(he:e=.ret∨e=.normal) (res:qU T x.n g ob rv=some [.one (tv (.bool b))]) (hb:b=b'):tN x T rv fresh [] (aN (.one (tv (.bool b')))) e g ob:=en he res (aX (cN _)) (by decide) (fun _=>trivial) (by rw[hb];rfl)
theorem Dg {b b':Bool}(h:b=b'):some (FV.one (tv (.bool b)))=some (FV.one (tv (.bool b'))):=by rw[h]
theorem Ez {f:Nat→Bool}{k:Nat}{b:Bool}(h:∀j,j<k→f j=b) (h2:f k=b):∀j,j<k+1→f j=b:=fun j hj=>by
 rcases Nat.lt_succ_iff_lt_or_eq.1 hj with h9 | h9
 ·exact h j h9
 rw[h9];exact h2
theorem f0 {f:Nat→Bool}{b:Bool}:∀j,j<0→f j=b:=fun j hj=>absurd hj (Nat.not_lt_zero j)
theorem Gb {k:IntKind}{a b:Int}(h:a=b):some (FV.one (tv (.int k a)))=some (FV.one (tv (.int k b))):=by rw[h]
section
variable {x:Cx}{g g':Nat→FV}{ob ob':List (Option Ob)}{cs cs':List Co}{ts ts':Array Value}{W W' W1:World}{Q:Post}{ops:Array Oper}{late:Nat→Bool}{K fr fr':List Nat}{on:Bool}{fuel:Nat}{listed listed':Array Bool}
end
section
variable {x:Cx}{g:Nat→FV}{ob ob':List (Option Ob)}{Q:Post}{ops:Array Oper}{rest:List Oper}{d:Nat}{op:Op}{ty:TypeId}{pos:String}{af:Array Edge}{gd:Option (Nat×Bool)}{C:Prop}{v:FV}{T:List (Nat×TI)}
end
def fd (n v:Nat):List Nat:=(List.range n).map fun i=>v/10^i%10
section
variable {xs:List Nat}
end
theorem Vm {xs:List Nat}(hx:xs.length≤4398046511104):aD false Tryz.prog 150 [] [.one (.t (sI false xs))] (aN (.one (.t (sI false (trim xs))))):=by
 refine cB Tryz.func150 rfl Tryz.ntmps150 rfl aA rfl fun N w c0 h0=>?_
 refine sq ?_;refine rl ?_;refine o1 ?_;refine nl ?_;refine sq ?_;refine bl ?_
 refine lp (γ:=List Nat) (fun zs=>cC [(0,.one (.t (sI false zs)))]) (fun _=>([]:List Ob).map some) (fun zs=>trim zs=trim xs∧zs.length≤xs.length) (fun zs=>zs.length) xs ⟨rfl,Nat.le_refl _⟩ (aU h0 [] _ _ (by decide) ⟨rfl,trivial⟩ rfl) fun zs hz=>?_
 refine sq ?_;refine sq ?_;refine rl ?_;(iterate 4 refine o1 ?_);refine WL.split (t:=6) rfl (fun h1=>?_) (fun h1=>?_)
 ·(iterate 4 refine o1 ?_);refine WL.cast (t:=10) (u':=.int .i64 ((zs.length-1:Nat):Int)) rfl (aC (by omega)) ?_
  refine o1 ?_;refine eB ([.v (.int .i64 ((nth zs (zs.length-1):Nat):Int))]) (fD zs (k:=zs.length-1) (by omega)) ?_
  refine o1 ?_;refine o1 ?_;refine nl ?_;refine bN rfl (fun h2=>?_) (fun h2=>?_)
  ·refine sk ?_;refine bl ?_;refine rl ?_;(iterate 4 refine o1 ?_);refine WL.cast (t:=18) (u':=.int .i64 ((zs.length-1:Nat):Int)) rfl (aC (by omega)) ?_
   refine o1 ?_;refine o1 ?_;refine nl ?_
   exact⟨zs.take (zs.length-1),by rw[List.length_take];omega,⟨(by rw[uO (xs:=zs) (k:=zs.length) (by omega) (Nat.le_refl _) (by omega),List.take_length];exact hz.1),by rw[List.length_take];omega⟩,aU h0 [] _ _ (by decide) ⟨congrArg some (Qv (by omega)).symm,trivial⟩ rfl⟩
  refine ex ?_;refine sq ?_;refine rl ?_;refine o1 ?_;refine o1 ?_;refine nl ?_;refine rt ?_;refine en (.inl rfl) rfl (aX (.one (.id rfl))) (by decide) (fun h=>by cases h) ?_
  have hx:trim xs=zs:=by
   rw[←hz.1];have h9:=pW (xs:=zs) (k:=zs.length) (by omega) (Nat.le_refl _) (by omega)
   rwa[List.take_length]at h9
  rw[hx];rfl
 (iterate 7 refine dM ?_);refine o1 ?_;refine nl ?_;refine gE rfl ?_;refine ex ?_;refine sq ?_;refine rl ?_;refine o1 ?_;refine o1 ?_;refine nl ?_;refine rt ?_
 refine en (.inl rfl) rfl (aX (.one (.id rfl))) (by decide) (fun h=>by cases h) ?_
 have hx:trim xs=zs:=by
  have h9:zs=[]:=List.eq_nil_of_length_eq_zero (by omega)
  rw[←hz.1,h9];rfl
 rw[hx];rfl
theorem jW {xs:List Nat}(hx:xs.length≤1099511627776) (hl:Lim 4294967296 xs):aD false Tryz.prog 134 [] [.one (.t (sU false xs))] (aN (.one (.t (sI false (dg 65536 (vl 4294967296 xs)))))):=by
 refine cB Tryz.func134 rfl Tryz.ntmps134 rfl aA rfl fun N w c0 h0=>?_
 refine sq ?_;refine rl ?_;refine o1 ?_;refine nl ?_;refine sq ?_;refine rl ?_;refine o1 ?_;refine nl ?_;refine sq ?_;refine sq ?_;refine rl ?_;refine o1 ?_;refine nl ?_;refine bl ?_
 refine lp (γ:=Nat) (fun k=>cC [(0,.one (.t (sU false xs))),(3,.one (.sl 0 0 (2*k))),(4,.one (tv (.int .i64 ((k:Nat):Int))))]) (fun k=>[(⟨3,1,(dX (hv (xs.take k))).map .t⟩:Ob)].map some) (fun k=>k≤xs.length) (fun k=>xs.length-k) 0 (Nat.zero_le _) ((nr (i:=3) 0 3 1 rfl rfl rfl rfl).trans (aU h0 [0] _ _ (by decide) ⟨rfl,rfl,rfl,trivial⟩ ⟨aK (l:=[]) rfl,rfl⟩)) fun k hk=>?_
 have hn:=hl.nth (by omega) k
 refine sq ?_;refine sq ?_;refine rl ?_;(iterate 4 refine o1 ?_);refine nl ?_;refine bN rfl (fun h1=>?_) (fun h1=>?_)
 ·refine sk ?_;refine sq ?_;refine bl ?_;refine rd [] (fun i=>[15].contains i) mixed ?_
  refine dv 0 ?_;refine dv 1 ?_;refine dv 2 ?_;refine dv 3 ?_;refine iB 4 ([.v (.int .u32 ((nth xs (k):Nat):Int))]) (pA xs (k:=k) (by omega)) ?_
  refine dv 5 ?_;refine WD.cast (t:=16) (u':=.int .u32 ((nth xs k%65536:Nat):Int)) rfl (aC (jX _ 65536)) ?_;refine dv 6 ?_;refine dv 7 ?_;refine dv 8 ?_;refine dv 9 ?_
  refine iB 10 ([.v (.int .u32 ((nth xs (k):Nat):Int))]) (pA xs (k:=k) (by omega)) ?_
  refine dv 11 ?_ (hC:=(gM 65536 (by omega) (by simp only[gW];omega)))
  refine WD.cast (t:=22) (u':=.int .u32 ((nth xs k/65536:Nat):Int)) rfl (aC (fK _ 65536)) ?_;refine dv 12 ?_;refine kV (key:=1) 13 (by kernel_rfl) rfl rfl aA rfl trivial ?_
  refine AM (j:=2) 14 rfl aA rfl rfl rfl (.sl rfl (by rw[List.length_map,gN,pB,List.length_take];omega)) (.sl rfl rfl rfl) rfl rfl (by omega) (by omega) rfl rfl (by kernel_rfl) rfl ?_
  refine eT 15 (by kernel_rfl) rfl rfl aA rfl (by trivial) ?_ (fun h=>by first | rfl | cases h)
  refine aQ ?_;refine rl ?_;(iterate 3 refine o1 ?_);refine nl ?_
  exact⟨k+1,by omega,by omega,aU h0 [2] _ _ (by decide) ⟨rfl,rfl,rfl,trivial⟩ ⟨lO rfl (gO _ [nth xs k%65536,nth xs k/65536]) (Ku (by omega)).symm,rfl⟩⟩
 refine ex ?_;refine sq ?_;refine rl ?_;refine WL.sub (xM (i:=3) (zs':=hv xs) rfl rfl rfl (by rw[pB,List.length_take];omega) (by rw[List.take_of_length_le (by omega)])) ?_
 refine o1 ?_;refine ca (Vm (by rw[pB];omega)) BX ⟨a1 rfl,rfl⟩ (.one (.t (sI false (trim (hv xs))))) ?_
 refine o1 ?_;refine nl ?_;refine rt ?_;exact en (.inl rfl) rfl (aX (.one (.id rfl))) (by decide) (fun h=>by cases h) (by rw[AN hl];rfl)
theorem yX {xs:List Nat}(hx:xs.length≤4398046511104) (hl:Lim 65536 xs):aD true Tryz.prog 136 [] [.one (.t (sI false xs))] (aN (.one (.t (sU true (dg 4294967296 (vl 65536 xs)))))):=by
 refine cB Tryz.func136 rfl Tryz.ntmps136 rfl aA rfl fun N w c0 h0=>?_
 refine sq ?_;refine rl ?_;refine o1 ?_;refine nl ?_;refine sq ?_;refine rl ?_;refine o1 ?_;refine nl ?_;refine sq ?_;refine rl ?_;refine o1 ?_
 refine ca (Vm hx) BX ⟨a1 rfl,rfl⟩ (.one (.t (sI false (trim xs)))) ?_;refine o1 ?_;refine nl ?_;refine sq ?_;refine sq ?_;have htl:=cQ xs
 have hlt:=hl.trim
 generalize hY:trim xs=ys at htl hlt;refine rl ?_;refine o1 ?_;refine nl ?_;refine bl ?_
 refine lp (γ:=Nat) (fun k=>cC [(0,.one (.t (sI false ys))),(3,.one (.sl 0 0 k)),(4,.one (tv (.int .i64 ((2*k:Nat):Int))))]) (fun k=>[(⟨113,1,(aV (lb (ys.take (2*k)))).map .t⟩:Ob)].map some) (fun k=>2*k≤ys.length+1) (fun k=>ys.length+1-2*k) 0 (Nat.zero_le _) ((nr (i:=3) 0 113 1 rfl rfl rfl rfl).trans (aU h0 [0] _ _ (by decide) ⟨rfl,rfl,rfl,trivial⟩ ⟨aK (l:=[]) rfl,rfl⟩)) fun k hk=>?_
 have hn:=hlt.nth (by omega) (2*k)
 have hn2:=hlt.nth (by omega) (2*k+1)
 refine sq ?_;refine sq ?_;refine rl ?_;(iterate 4 refine o1 ?_);refine nl ?_;refine bN rfl (fun h1=>?_) (fun h1=>?_)
 ·refine sk ?_;refine sq ?_;refine bl ?_;refine sq ?_;refine rl ?_;refine o1 ?_;refine nl ?_;refine sq ?_;refine sq ?_;refine rl ?_;refine o1 ?_;refine o1 ?_
  refine WL.cast (t:=15) (u':=.int .i64 ((2*k+1:Nat):Int)) rfl (aC (by omega)) ?_
  (iterate 3 refine o1 ?_);refine nl ?_;refine bN rfl (fun h2=>?_) (fun h2=>?_)
  ·refine rl ?_;(iterate 3 refine o1 ?_);refine WL.cast (t:=21) (u':=.int .i64 ((2*k+1:Nat):Int)) rfl (aC (by omega)) ?_
   refine o1 ?_;refine eB ([.v (.int .i64 ((nth ys (2*k+1):Nat):Int))]) (fD ys (k:=2*k+1) (by omega)) ?_
   refine o1 ?_;refine nl ?_;refine rl ?_;(iterate 4 refine o1 ?_);refine eB ([.v (.int .i64 ((nth ys (2*k):Nat):Int))]) (fD ys (k:=2*k) (by omega)) ?_
   (iterate 5 refine o1 ?_);refine WL.cast (t:=33) (u':=.int .u32 ((nth ys (2*k)+65536*nth ys (2*k+1):Nat):Int)) rfl (aC (by omega)) ?_
   refine bs 1 ?_;refine iV (j:=2) aA rfl rfl rfl rfl (.sl rfl (by rw[List.length_map,gP,iC,List.length_take];omega)) (.sl rfl rfl rfl) rfl rfl rfl (by omega) (by omega) ?_
   refine o1 ?_;refine nl ?_;refine rl ?_;(iterate 3 refine o1 ?_);refine nl ?_
   exact⟨k+1,by omega,by omega,aU h0 [2] _ _ (by decide) ⟨rfl,rfl,rfl,trivial⟩ ⟨Qw rfl (Ji _ [nth ys (2*k)+65536*nth ys (2*k+1)]) (xJ (by omega)).symm,rfl⟩⟩
  have hz:=eE (l:=ys) (k:=2*k+1) (by omega)
  refine sk ?_;refine rl ?_;(iterate 4 refine o1 ?_);refine eB ([.v (.int .i64 ((nth ys (2*k):Nat):Int))]) (fD ys (k:=2*k) (by omega)) ?_
  (iterate 5 refine o1 ?_);refine WL.cast (t:=33) (u':=.int .u32 ((nth ys (2*k)+65536*nth ys (2*k+1):Nat):Int)) rfl (aC (by omega)) ?_
  refine bs 1 ?_;refine iV (j:=2) aA rfl rfl rfl rfl (.sl rfl (by rw[List.length_map,gP,iC,List.length_take];omega)) (.sl rfl rfl rfl) rfl rfl rfl (by omega) (by omega) ?_
  refine o1 ?_;refine nl ?_;refine rl ?_;(iterate 3 refine o1 ?_);refine nl ?_
  exact⟨k+1,by omega,by omega,aU h0 [2] _ _ (by decide) ⟨rfl,rfl,rfl,trivial⟩ ⟨Qw rfl (Ji _ [nth ys (2*k)+65536*nth ys (2*k+1)]) (xJ (by omega)).symm,rfl⟩⟩
 refine ex ?_;refine sq ?_;refine rl ?_;refine o1 ?_;refine o1 ?_;refine nl ?_;refine rt ?_
 exact en (.inl rfl) rfl (aX (.one (.sl (trs:=aV (lb ys)) rfl rfl (by rw[List.take_of_length_le (l:=ys) (by omega),List.take_of_length_le (by simp[gP,iC];omega)]) (by rw[gP,iC];omega)))) (by decide) (fun _=>.inl ⟨rfl,eP _⟩) (by rw[←zI,eR (by omega) hl,hY];unfold sU;rw[show k=(lb ys).length by rw[iC];omega];rfl)
theorem oM {xs:List Nat}{k:Nat}:aD true Tryz.prog 135 [] [.one (.t (sI false xs)),.one (tv (.int .i64 ((k:Nat):Int)))] (aN (.one (tv (.int .i64 ((nth xs k:Nat):Int))))):=by
 refine cB Tryz.func135 rfl Tryz.ntmps135 rfl aA rfl fun N w c0 h0=>?_
 refine sq ?_;refine rl ?_;refine o1 ?_;refine nl ?_;refine sq ?_;refine sq ?_;refine rl ?_;(iterate 4 refine o1 ?_);refine nl ?_;refine bN rfl (fun h1=>?_) (fun h1=>?_)
 ·refine sq ?_;refine rl ?_;(iterate 3 refine o1 ?_);refine eB ([.v (.int .i64 ((nth xs (k):Nat):Int))]) (fD xs (k:=k) (by omega)) ?_
  refine o1 ?_;refine nl ?_;refine rt ?_;refine en (.inl rfl) rfl (aX (cN _)) (by decide) (fun _=>trivial) ?_
  rfl
 refine sk ?_;refine sq ?_;refine rl ?_;refine o1 ?_;refine nl ?_;refine rt ?_;refine en (.inl rfl) rfl (aX (cN _)) (by decide) (fun _=>trivial) ?_
 rw[eE (by omega)];rfl
theorem GX {xs:List Nat}(hx:xs.length≤1099511627776) (hlx:Lim 4294967296 xs):aD true Tryz.prog 132 [] [.one (.t (sU false xs))] (aN (.one (.t (sU true (dg 4294967296 (vl 4294967296 xs)))))):=by
 refine cB Tryz.func132 rfl Tryz.ntmps132 rfl aA rfl fun N w c0 h0=>?_
 have hd:=eU (v:=vl 4294967296 xs) (L:=xs.length) (by rw[eR (by omega) hlx];exact cQ _)
 have hl9:=aL (B:=65536) (by omega) (vl 4294967296 xs)
 refine sq ?_;refine rl ?_;refine o1 ?_;refine nl ?_;refine sq ?_;refine rl ?_;refine o1 ?_
 refine ca (jW hx hlx) tQ ⟨a1 rfl,rfl⟩ (.one (.t (sI false (dg 65536 (vl 4294967296 xs))))) ?_;refine iS 0 (yX (by omega) (by assumption)) Pr ⟨a1 rfl,rfl⟩ ?_
 refine o1 ?_;refine nl ?_;refine rt ?_
 exact en (.inl rfl) rfl (aX (.one (.sl (trs:=aV (dg 4294967296 (vl 65536 (dg 65536 (vl 4294967296 xs))))) rfl rfl (bR _) (bO _)))) (by decide) (fun _=>.inl ⟨rfl,eP _⟩) (by rw[cA (by omega)];rfl)
theorem Jy {xs ys:List Nat}(hx:xs.length≤1099511627776) (hlx:Lim 4294967296 xs) (hy:ys.length≤1099511627776) (hly:Lim 4294967296 ys):aD true Tryz.prog 137 [] [.one (.t (sU false xs)),.one (.t (sU false ys))] (aN (.one (tv (.int .i64 (((vl 4294967296 xs:Nat):Int)-((vl 4294967296 ys:Nat):Int)).sign)))):=by
 refine cB Tryz.func137 rfl Tryz.ntmps137 rfl aA rfl fun N w c0 h0=>?_
 refine sq ?_;refine rl ?_;refine o1 ?_;refine nl ?_;refine sq ?_;refine rl ?_;refine o1 ?_
 refine ca (jW hx hlx) tQ ⟨a1 rfl,rfl⟩ (.one (.t (sI false (dg 65536 (vl 4294967296 xs))))) ?_;refine o1 ?_
 refine ca (jW hy hly) tQ ⟨a1 rfl,rfl⟩ (.one (.t (sI false (dg 65536 (vl 4294967296 ys))))) ?_;refine o1 ?_;refine o1 ?_;refine nl ?_;refine sq ?_;refine sq ?_
 have hdx:=eU (v:=vl 4294967296 xs) (L:=xs.length) (by rw[eR (by omega) hlx];exact cQ _)
 have hdy:=eU (v:=vl 4294967296 ys) (L:=ys.length) (by rw[eR (by omega) hly];exact cQ _)
 have hX:=aL (B:=65536) (by omega) (vl 4294967296 xs)
 have hY:=aL (B:=65536) (by omega) (vl 4294967296 ys)
 have hvX:=cA (B:=65536) (by omega) (vl 4294967296 xs)
 have hvY:=cA (B:=65536) (by omega) (vl 4294967296 ys)
 generalize dg 65536 (vl 4294967296 xs)=X at hdx hX hvX⊢;generalize dg 65536 (vl 4294967296 ys)=Y at hdy hY hvY⊢;refine rl ?_;(iterate 5 refine o1 ?_)
 refine WL.cast (t:=16) (u':=.int .i64 ((max X.length Y.length:Nat):Int)) rfl (aC (by omega)) ?_
 refine o1 ?_;refine o1 ?_;refine nl ?_;refine bl ?_
 refine lp (γ:=Nat) (fun k=>cC [(5,.one (.t (sI false X))),(6,.one (.t (sI false Y))),(7,.one (tv (.int .i64 ((k:Nat)-1))))]) (fun k=>([]:List Ob).map some) (fun k=>(∀j,k≤j→nth X j=nth Y j)∧k≤max X.length Y.length) (fun k=>k) (max X.length Y.length) ⟨fun j hj=>by rw[eE (by omega),eE (by omega)],Nat.le_refl _⟩ (aU h0 [] _ _ (by decide) ⟨rfl,rfl,rfl,trivial⟩ rfl) fun k hk=>?_
 refine sq ?_;refine sq ?_;refine rl ?_;refine o1 ?_;refine o1 ?_;refine nl ?_;refine bN rfl (fun h1=>?_) (fun h1=>?_)
 ·refine sk ?_;refine sq ?_;refine bl ?_;refine sq ?_;refine sq ?_;refine rl ?_;refine o1 ?_;refine o1 ?_
  refine WL.cast (t:=23) (u':=.int .i64 ((k-1:Nat):Int)) rfl (aC (by omega)) ?_
  refine ca (oM) oL ⟨a1 rfl,a1 rfl,rfl⟩ (.one (tv (.int .i64 ((nth X (k-1):Nat):Int)))) ?_;refine o1 ?_;refine o1 ?_
  refine WL.cast (t:=26) (u':=.int .i64 ((k-1:Nat):Int)) rfl (aC (by omega)) ?_
  refine ca (oM) oL ⟨a1 rfl,a1 rfl,rfl⟩ (.one (tv (.int .i64 ((nth Y (k-1):Nat):Int)))) ?_;refine o1 ?_;refine nl ?_;refine bN rfl (fun h2=>?_) (fun h2=>?_)
  ·refine sq ?_;refine rl ?_;refine o1 ?_;refine nl ?_;refine rt ?_;refine en (.inl rfl) rfl (aX (cN _)) (by decide) (fun _=>trivial) (congrArg (fun z=>FV.one (tv (.int .i64 z))) ?_)
   have he:=Ff (X:=X) (Y:=Y) (k:=k-1) hX (fun j hj=>hk.1 j (by omega)) (by omega)
   rw[hvX,hvY]at he;rw[Int.sign_eq_neg_one_of_neg (by omega)]
  refine sk ?_;refine sq ?_;refine rl ?_;refine o1 ?_;refine o1 ?_;refine WL.cast (t:=30) (u':=.int .i64 ((k-1:Nat):Int)) rfl (aC (by omega)) ?_
  refine ca (oM) oL ⟨a1 rfl,a1 rfl,rfl⟩ (.one (tv (.int .i64 ((nth X (k-1):Nat):Int)))) ?_;refine o1 ?_;refine o1 ?_
  refine WL.cast (t:=33) (u':=.int .i64 ((k-1:Nat):Int)) rfl (aC (by omega)) ?_
  refine ca (oM) oL ⟨a1 rfl,a1 rfl,rfl⟩ (.one (tv (.int .i64 ((nth Y (k-1):Nat):Int)))) ?_;refine o1 ?_;refine nl ?_;refine bN rfl (fun h3=>?_) (fun h3=>?_)
  ·refine sq ?_;refine rl ?_;refine o1 ?_;refine nl ?_;refine rt ?_;refine en (.inl rfl) rfl (aX (cN _)) (by decide) (fun _=>trivial) (congrArg (fun z=>FV.one (tv (.int .i64 z))) ?_)
   have he:=Ff (X:=Y) (Y:=X) (k:=k-1) hY (fun j hj=>(hk.1 j (by omega)).symm) (by omega)
   rw[hvX,hvY]at he;rw[Int.sign_eq_one_of_pos (by omega)]
  refine sk ?_;refine rl ?_;(iterate 3 refine o1 ?_);refine nl ?_
  exact⟨k-1,by omega,⟨fun j hj=>(Nat.eq_or_lt_of_le hj).elim (fun h9=>by rw[←h9];omega) (fun h9=>hk.1 j (by omega)),by omega⟩,aU h0 [] _ _ (by decide) ⟨rfl,rfl,congrArg (fun z=>some (FV.one (tv (.int .i64 z)))) (by omega),trivial⟩ rfl⟩
 refine ex ?_;refine sq ?_;refine rl ?_;refine o1 ?_;refine nl ?_;refine rt ?_
 refine en (.inl rfl) rfl (aX (cN _)) (by decide) (fun _=>trivial) (congrArg (fun z=>FV.one (tv (.int .i64 z))) ?_)
 have he:=Qy (fun j=>hk.1 j (by omega))
 rw[hvX,hvY]at he;rw[he,Int.sub_self];rfl
theorem NJ {xs ys:List Nat}(hx:xs.length≤1099511627776) (hlx:Lim 4294967296 xs) (hy:ys.length≤1099511627776) (hly:Lim 4294967296 ys):aD true Tryz.prog 111 [] [.one (.t (sU false xs)),.one (.t (sU false ys))] (aN (.one (.t (sU true (dg 4294967296 (vl 4294967296 xs+vl 4294967296 ys)))))):=by
 refine cB Tryz.func111 rfl Tryz.ntmps111 rfl aA rfl fun N w c0 h0=>?_
 refine sq ?_;refine rl ?_;refine o1 ?_;refine nl ?_;refine sq ?_;refine rl ?_;refine o1 ?_
 refine ca (jW hx hlx) tQ ⟨a1 rfl,rfl⟩ (.one (.t (sI false (dg 65536 (vl 4294967296 xs))))) ?_;refine o1 ?_
 refine ca (jW hy hly) tQ ⟨a1 rfl,rfl⟩ (.one (.t (sI false (dg 65536 (vl 4294967296 ys))))) ?_;refine o1 ?_;refine o1 ?_;refine nl ?_;refine sq ?_
 have hdx:=eU (v:=vl 4294967296 xs) (L:=xs.length) (by rw[eR (by omega) hlx];exact cQ _)
 have hdy:=eU (v:=vl 4294967296 ys) (L:=ys.length) (by rw[eR (by omega) hly];exact cQ _)
 have hX:=aL (B:=65536) (by omega) (vl 4294967296 xs)
 have hY:=aL (B:=65536) (by omega) (vl 4294967296 ys)
 have hvX:=cA (B:=65536) (by omega) (vl 4294967296 xs)
 have hvY:=cA (B:=65536) (by omega) (vl 4294967296 ys)
 generalize dg 65536 (vl 4294967296 xs)=X at hdx hX hvX⊢;generalize dg 65536 (vl 4294967296 ys)=Y at hdy hY hvY⊢;refine rl ?_;refine o1 ?_;refine nl ?_;refine sq ?_;refine rl ?_
 refine o1 ?_;refine nl ?_;refine sq ?_;refine sq ?_;refine rl ?_;refine o1 ?_;refine nl ?_;refine bl ?_
 refine lp (γ:=Nat×Nat×List Nat) (fun s=>cC [(5,.one (.t (sI false X))),(6,.one (.t (sI false Y))),(7,.one (.sl 0 0 s.1)),(8,.one (tv (.int .i64 ((s.2.1:Nat):Int)))),(9,.one (tv (.int .i64 ((s.1:Nat):Int))))]) (fun s=>[(⟨3,1,(dX s.2.2).map .t⟩:Ob)].map some) (fun s=>s.2.2.length=s.1∧Lim 65536 s.2.2∧vl 65536 s.2.2+65536^s.1*s.2.1=vl 65536 (X.take s.1)+vl 65536 (Y.take s.1)∧s.2.1≤1∧(s.1≤max X.length Y.length∨s.1=max X.length Y.length+1∧s.2.1=0)) (fun s=>max X.length Y.length+1-s.1) (0,0,[]) ⟨rfl,Lim.nil,rfl,Nat.zero_le _,.inl (Nat.zero_le _)⟩ ((nr (i:=7) 0 3 1 rfl rfl rfl rfl).trans (aU h0 [0] _ _ (by decide) ⟨rfl,rfl,rfl,rfl,rfl,trivial⟩ ⟨aK (l:=[]) rfl,rfl⟩)) ?_
 rintro⟨k,cr,os⟩ ⟨hos,hol,hv,hc1,hkm⟩;dsimp only at hos hol hv hc1 hkm⊢;have hn1:=hX.nth (by omega) k
 have hn2:=hY.nth (by omega) k
 refine sq ?_;refine sq ?_;refine rl ?_;(iterate 6 refine o1 ?_);refine WL.cast (t:=20) (u':=.int .i64 ((max X.length Y.length:Nat):Int)) rfl (aC (by omega)) ?_
 refine o1 ?_;refine o1 ?_;refine WL.split (t:=22) rfl (fun h1=>?_) (fun h1=>?_)
 ·refine dM ?_;refine dM ?_;refine o1 ?_;refine nl ?_;refine iL rfl ?_;refine sk ?_;refine sq ?_;refine bl ?_;refine sq ?_;refine rl ?_;refine o1 ?_;refine o1 ?_
  refine ca (oM) oL ⟨a1 rfl,a1 rfl,rfl⟩ (.one (tv (.int .i64 ((nth X (k):Nat):Int)))) ?_;refine o1 ?_;refine o1 ?_
  refine ca (oM) oL ⟨a1 rfl,a1 rfl,rfl⟩ (.one (tv (.int .i64 ((nth Y (k):Nat):Int)))) ?_;(iterate 3 refine o1 ?_)
  refine WL.cast (t:=36) (u':=.int .i64 ((nth X k+nth Y k+cr:Nat):Int)) rfl (aC (by omega)) ?_
  refine o1 ?_;refine nl ?_;refine sq ?_;refine rl ?_;(iterate 3 refine o1 ?_)
  refine WL.cast (t:=39) (u':=.int .i64 (((nth X k+nth Y k+cr)%65536:Nat):Int)) rfl (aC (jX _ 65536)) ?_;refine bs 1 ?_
  refine iV (j:=2) aA rfl rfl rfl rfl (.sl rfl (by rw[List.length_map,gN,hos];omega)) (.sl rfl rfl rfl) rfl rfl rfl (by omega) (by omega) ?_
  refine o1 ?_;refine nl ?_;refine rl ?_;refine o1 ?_;refine o1 ?_ (hC:=(gM 65536 (by omega) (by simp only[gW];omega)))
  refine WL.cast (t:=43) (u':=.int .i64 (((nth X k+nth Y k+cr)/65536:Nat):Int)) rfl (aC (fK _ 65536)) ?_;refine o1 ?_;refine nl ?_;refine rl ?_;(iterate 3 refine o1 ?_)
  refine nl ?_;have hst:=Jg hos hv
  have hz1:X.length≤k→nth X k=0:=fun h=>eE (by omega)
  have hz2:Y.length≤k→nth Y k=0:=fun h=>eE (by omega)
  exact⟨(k+1,(nth X k+nth Y k+cr)/65536,os++[(nth X k+nth Y k+cr)%65536]),by dsimp only;omega,⟨by simp[hos],hol.append (Lim.cons (Nat.mod_lt _ (by omega)) Lim.nil),hst,by dsimp only;omega,by dsimp only;omega⟩,aU h0 [2] _ _ (by decide) ⟨rfl,rfl,rfl,rfl,rfl,trivial⟩ ⟨lO rfl (gO _ [(nth X k+nth Y k+cr)%65536]) rfl,rfl⟩⟩
 (iterate 3 refine o1 ?_);refine nl ?_;refine bN rfl (fun h2=>?_) (fun h2=>?_)
 ·refine sk ?_;refine sq ?_;refine bl ?_;refine sq ?_;refine rl ?_;refine o1 ?_;refine o1 ?_
  refine ca (oM) oL ⟨a1 rfl,a1 rfl,rfl⟩ (.one (tv (.int .i64 ((nth X (k):Nat):Int)))) ?_;refine o1 ?_;refine o1 ?_
  refine ca (oM) oL ⟨a1 rfl,a1 rfl,rfl⟩ (.one (tv (.int .i64 ((nth Y (k):Nat):Int)))) ?_;(iterate 3 refine o1 ?_)
  refine WL.cast (t:=36) (u':=.int .i64 ((nth X k+nth Y k+cr:Nat):Int)) rfl (aC (by omega)) ?_
  refine o1 ?_;refine nl ?_;refine sq ?_;refine rl ?_;(iterate 3 refine o1 ?_)
  refine WL.cast (t:=39) (u':=.int .i64 (((nth X k+nth Y k+cr)%65536:Nat):Int)) rfl (aC (jX _ 65536)) ?_;refine bs 1 ?_
  refine iV (j:=2) aA rfl rfl rfl rfl (.sl rfl (by rw[List.length_map,gN,hos];omega)) (.sl rfl rfl rfl) rfl rfl rfl (by omega) (by omega) ?_
  refine o1 ?_;refine nl ?_;refine rl ?_;refine o1 ?_;refine o1 ?_ (hC:=(gM 65536 (by omega) (by simp only[gW];omega)))
  refine WL.cast (t:=43) (u':=.int .i64 (((nth X k+nth Y k+cr)/65536:Nat):Int)) rfl (aC (fK _ 65536)) ?_;refine o1 ?_;refine nl ?_;refine rl ?_;(iterate 3 refine o1 ?_)
  refine nl ?_;have hst:=Jg hos hv
  have hz1:X.length≤k→nth X k=0:=fun h=>eE (by omega)
  have hz2:Y.length≤k→nth Y k=0:=fun h=>eE (by omega)
  exact⟨(k+1,(nth X k+nth Y k+cr)/65536,os++[(nth X k+nth Y k+cr)%65536]),by dsimp only;omega,⟨by simp[hos],hol.append (Lim.cons (Nat.mod_lt _ (by omega)) Lim.nil),hst,by dsimp only;omega,by dsimp only;omega⟩,aU h0 [2] _ _ (by decide) ⟨rfl,rfl,rfl,rfl,rfl,trivial⟩ ⟨lO rfl (gO _ [(nth X k+nth Y k+cr)%65536]) rfl,rfl⟩⟩
 refine ex ?_;refine sq ?_;refine rl ?_;have hc0:cr=0:=by omega
 rw[hc0,Nat.mul_zero,Nat.add_zero,bL 65536 (by omega),bL 65536 (by omega),hvX,hvY]at hv
 refine WL.sub (xM (i:=7) (zs':=os) rfl rfl rfl (by omega) rfl) ?_
 refine o1 ?_;refine iS 1 (yX (by omega) (by assumption)) Pr ⟨a1 rfl,rfl⟩ ?_
 refine o1 ?_;refine nl ?_;refine rt ?_
 exact en (.inl rfl) rfl (aX (.one (.sl (trs:=aV (dg 4294967296 (vl 65536 os))) rfl rfl (bR _) (bO _)))) (by decide) (fun _=>.inl ⟨rfl,eP _⟩) (by rw[hv];rfl)
theorem Vo {xs ys:List Nat}(hx:xs.length≤1099511627776) (hlx:Lim 4294967296 xs) (hy:ys.length≤1099511627776) (hly:Lim 4294967296 ys):aD true Tryz.prog 112 [] [.one (.t (sU false xs)),.one (.t (sU false ys))] (aN (.tup [.one (.t (sU true (dg 4294967296 (vl 4294967296 xs-vl 4294967296 ys)))),.one (tv (.int .i64 (if vl 4294967296 xs<vl 4294967296 ys then 2 else 0)))])):=by
 refine cB Tryz.func112 rfl Tryz.ntmps112 rfl aA rfl fun N w c0 h0=>?_
 refine sq ?_;refine rl ?_;refine o1 ?_;refine o1 ?_;refine nl ?_;refine sq ?_;refine sq ?_;refine rl ?_;refine o1 ?_;refine o1 ?_
 refine ca (Jy hx hlx hy hly) Ps ⟨a1 rfl,a1 rfl,rfl⟩ (.one (tv (.int .i64 (((vl 4294967296 xs:Nat):Int)-((vl 4294967296 ys:Nat):Int)).sign))) ?_;refine o1 ?_;refine nl ?_
 refine bN rfl (fun h1=>?_) (fun h1=>?_)
 ·refine sq ?_;refine rl ?_;refine o1 ?_;refine o1 ?_;refine nl ?_;refine rt ?_;have hlt:=MP h1
  exact en (.inl rfl) rfl (uE (.cons (.one (.nil (t:=113) (z:=1))) (.cons (cN _) .nil))) (by decide) (fun _=>⟨.inl ⟨rfl,trivial⟩,trivial,trivial⟩) (by rw[Nat.sub_eq_zero_of_le (Nat.le_of_lt hlt),if_pos hlt];rfl)
 refine sk ?_;refine sq ?_;refine rl ?_;refine o1 ?_;refine ca (jW hx hlx) tQ ⟨a1 rfl,rfl⟩ (.one (.t (sI false (dg 65536 (vl 4294967296 xs))))) ?_;refine o1 ?_
 refine ca (jW hy hly) tQ ⟨a1 rfl,rfl⟩ (.one (.t (sI false (dg 65536 (vl 4294967296 ys))))) ?_;refine o1 ?_;refine o1 ?_;refine nl ?_;refine sq ?_
 have hge:vl 4294967296 ys≤vl 4294967296 xs:=MO h1
 have hyx:=cU (B:=65536) (by omega) hge
 have hdx:=eU (v:=vl 4294967296 xs) (L:=xs.length) (by rw[eR (by omega) hlx];exact cQ _)
 have hdy:=eU (v:=vl 4294967296 ys) (L:=ys.length) (by rw[eR (by omega) hly];exact cQ _)
 have hX:=aL (B:=65536) (by omega) (vl 4294967296 xs)
 have hY:=aL (B:=65536) (by omega) (vl 4294967296 ys)
 have hvX:=cA (B:=65536) (by omega) (vl 4294967296 xs)
 have hvY:=cA (B:=65536) (by omega) (vl 4294967296 ys)
 generalize dg 65536 (vl 4294967296 xs)=X at hdx hX hvX hyx⊢;generalize dg 65536 (vl 4294967296 ys)=Y at hdy hY hvY hyx⊢;refine rl ?_;refine o1 ?_;refine nl ?_;refine sq ?_;refine rl ?_
 refine o1 ?_;refine nl ?_;refine sq ?_;refine sq ?_;refine rl ?_;refine o1 ?_;refine nl ?_;refine bl ?_
 refine lp (γ:=Nat×Nat×List Nat) (fun s=>cC [(6,.one (.t (sI false X))),(7,.one (.t (sI false Y))),(8,.one (.sl 0 0 s.1)),(9,.one (tv (.int .i64 ((s.2.1:Nat):Int)))),(10,.one (tv (.int .i64 ((s.1:Nat):Int))))]) (fun s=>[(⟨3,1,(dX s.2.2).map .t⟩:Ob)].map some) (fun s=>s.2.2.length=s.1∧Lim 65536 s.2.2∧vl 65536 s.2.2+vl 65536 (Y.take s.1)=vl 65536 (X.take s.1)+65536^s.1*s.2.1∧s.2.1≤1∧s.1≤X.length) (fun s=>X.length-s.1) (0,0,[]) ⟨rfl,Lim.nil,rfl,Nat.zero_le _,Nat.zero_le _⟩ ((nr (i:=8) 0 3 1 rfl rfl rfl rfl).trans (aU h0 [0] _ _ (by decide) ⟨rfl,rfl,rfl,rfl,rfl,trivial⟩ ⟨aK (l:=[]) rfl,rfl⟩)) ?_
 rintro⟨k,br,os⟩ ⟨hos,hol,hv,hc1,hkm⟩;dsimp only at hos hol hv hc1 hkm⊢;have hn1:=hX.nth (by omega) k
 have hn2:=hY.nth (by omega) k
 refine sq ?_;refine sq ?_;refine rl ?_;(iterate 4 refine o1 ?_);refine nl ?_;refine bN rfl (fun h2=>?_) (fun h2=>?_)
 ·refine sk ?_;refine sq ?_;refine bl ?_;refine sq ?_;refine rd [] (fun i=>[10].contains i) mixed ?_
  refine dv 0 ?_;refine dv 1 ?_;refine dv 2 ?_;refine iB 3 ([.v (.int .i64 ((nth X (k):Nat):Int))]) (fD X (k:=k) (by omega)) ?_
  refine dv 4 ?_;refine dv 5 ?_;refine dv 8 ?_;refine bD 6 rfl (oM) oL ⟨a1 rfl,a1 rfl,rfl⟩ (.one (tv (.int .i64 ((nth Y (k):Nat):Int)))) ?_;refine df 7 ?_;refine df 9 ?_
  refine eT 10 (by kernel_rfl) rfl rfl aA rfl (by trivial) ?_ (fun h=>by first | rfl | cases h)
  refine aQ ?_;refine sq ?_;refine rl ?_;refine o1 ?_;refine nl ?_;refine sq ?_;refine sq ?_;refine rl ?_;refine o1 ?_;refine o1 ?_;refine nl ?_
  refine bN rfl (fun h3=>?_) (fun h3=>?_)
  ·refine sq ?_;refine rl ?_;(iterate 3 refine o1 ?_);refine nl ?_;refine rl ?_;refine o1 ?_;refine nl ?_;refine rl ?_
   refine WL.cast (t:=11) (u':=.int .i64 (((nth X k+65536-nth Y k-br:Nat)):Int)) rfl (aC (by omega)) ?_
   refine o1 ?_;refine o1 ?_;refine bs 1 ?_
   refine iV (j:=2) aA rfl rfl rfl rfl (.sl rfl (by rw[List.length_map,gN,hos];omega)) (.sl rfl rfl rfl) rfl rfl rfl (by omega) (by omega) ?_
   refine o1 ?_;refine nl ?_;refine rl ?_;(iterate 3 refine o1 ?_);refine nl ?_;have hst:=Jh (d:=nth X k+65536-nth Y k-br) (br':=1) hos hv (by omega)
   exact⟨(k+1,1,os++[nth X k+65536-nth Y k-br]),by dsimp only;omega,⟨by simp[hos],hol.append (Lim.cons (by omega) Lim.nil),hst,by dsimp only;omega,by dsimp only;omega⟩,aU h0 [2] _ _ (by decide) ⟨rfl,rfl,rfl,rfl,rfl,trivial⟩ ⟨lO rfl (gO _ [nth X k+65536-nth Y k-br]) rfl,rfl⟩⟩
  refine sk ?_;refine rl ?_;refine WL.cast (t:=11) (u':=.int .i64 (((nth X k-nth Y k-br:Nat)):Int)) rfl (aC (by omega)) ?_
  refine o1 ?_;refine o1 ?_;refine bs 1 ?_
  refine iV (j:=2) aA rfl rfl rfl rfl (.sl rfl (by rw[List.length_map,gN,hos];omega)) (.sl rfl rfl rfl) rfl rfl rfl (by omega) (by omega) ?_
  refine o1 ?_;refine nl ?_;refine rl ?_;(iterate 3 refine o1 ?_);refine nl ?_;have hst:=Jh (d:=nth X k-nth Y k-br) (br':=0) hos hv (by omega)
  exact⟨(k+1,0,os++[nth X k-nth Y k-br]),by dsimp only;omega,⟨by simp[hos],hol.append (Lim.cons (by omega) Lim.nil),hst,by dsimp only;omega,by dsimp only;omega⟩,aU h0 [2] _ _ (by decide) ⟨rfl,rfl,rfl,rfl,rfl,trivial⟩ ⟨lO rfl (gO _ [nth X k-nth Y k-br]) rfl,rfl⟩⟩
 refine ex ?_;refine sq ?_;refine rl ?_;have hoo:=eQ hol
 rw[hos]at hoo;rw[bL 65536 (l:=X) (by omega),bL 65536 (l:=Y) (by omega),hvX,hvY]at hv
 have hb0:br=0:=by
  rcases Nat.eq_zero_or_pos br with h0 | h0
  ·exact h0
  have h1:br=1:=by omega
  rw[h1,Nat.mul_one,show k=X.length by omega]at hv
  rw[show k=X.length by omega]at hoo
  omega
 rw[hb0,Nat.mul_zero,Nat.add_zero]at hv;have he:vl 65536 os=vl 4294967296 xs-vl 4294967296 ys:=by omega
 refine WL.sub (xM (i:=8) (zs':=os) rfl rfl rfl (by omega) rfl) ?_
 refine o1 ?_;refine iS 1 (yX (by omega) (by assumption)) Pr ⟨a1 rfl,rfl⟩ ?_
 refine o1 ?_;refine o1 ?_;refine nl ?_;refine rt ?_
 exact en (.inl rfl) rfl (uE (.cons (.one (.sl (trs:=aV (dg 4294967296 (vl 65536 os))) rfl rfl (bR _) (bO _))) (.cons (cN _) .nil))) (by decide) (fun _=>⟨.inl ⟨rfl,eP _⟩,trivial,trivial⟩) (by rw[he,if_neg (by omega)];rfl)
theorem AI {a:Zi}{k:Int}(ha:Zn a k):aD true Tryz.prog 90 [] [gF a] (aN (.one (tv (.bool (dE a.s a.x))))):=by
 refine cB Tryz.func90 rfl Tryz.ntmps90 rfl aA rfl fun N w c0 h0=>?_
 have hal:=ha.2.1
 refine sq ?_;refine rl ?_;refine bx 0 ?_;refine o1 ?_;refine nl ?_;refine sq ?_;refine sq ?_;refine rl ?_;refine o1 ?_;refine ld ?_;refine o1 ?_;refine o1 ?_;refine nl ?_
 refine bN rfl (fun h1=>?_) (fun h1=>?_)
 ·refine sq ?_;refine rl ?_;refine o1 ?_;refine ld ?_;refine WL.splitb (t:=8) rfl (fun h2=>?_) (fun h2=>?_)
  ·refine o1 ?_;refine o1 ?_;refine nl ?_;refine rt ?_;refine en (.inl rfl) rfl (aX (cN _)) (by decide) (fun _=>trivial) (congrArg (fun b=>FV.one (tv (.bool b))) ?_)
   rw[mF (by omega)];simp_all
  refine o1 ?_;refine o1 ?_;refine nl ?_;refine rt ?_;refine en (.inl rfl) rfl (aX (cN _)) (by decide) (fun _=>trivial) (congrArg (fun b=>FV.one (tv (.bool b))) ?_)
  rw[mF (by omega)];simp_all
 refine sk ?_;refine sq ?_;refine rl ?_;refine o1 ?_;refine ld ?_;refine o1 ?_;refine ld ?_;refine o1 ?_;refine o1 ?_
 refine WL.cast (t:=15) (u':=.int .i64 ((a.x.length-1:Nat):Int)) rfl (aC (by omega)) ?_
 refine o1 ?_;refine eB ([.v (.int .u32 ((nth a.x (a.x.length-1):Nat):Int))]) (pA a.x (k:=a.x.length-1) (by omega)) ?_
 refine o1 ?_;refine o1 ?_;refine nl ?_;refine rt ?_;refine en (.inl rfl) rfl (aX (cN _)) (by decide) (fun _=>trivial) (congrArg (fun b=>FV.one (tv (.bool b))) ?_)
 exact(tU rfl (by omega)).symm
theorem iG {a:Zi}{k:Int}(ha:Zn a k):aD false Tryz.prog 110 [] [gF a] (aN (kF k)):=by
 refine cB Tryz.func110 rfl Tryz.ntmps110 rfl aA rfl fun N w c0 h0=>?_
 refine sq ?_;refine rl ?_;refine bx 0 ?_;refine al 1 ?_;refine nl ?_;refine sq ?_;refine sq ?_;refine rl ?_;refine ld ?_
 refine ca (AI ha) TV ⟨aG rfl,rfl⟩ (.one (tv (.bool (dE a.s a.x)))) ?_;refine WL.splitb (t:=4) rfl (fun h1=>?_) (fun h1=>?_)
 ·refine o1 ?_;refine nl ?_;refine gE rfl ?_;refine sk ?_;refine sq ?_;refine rl ?_;refine ld ?_;refine st ?_;refine nl ?_;refine rt ?_
  exact en (.inl rfl) rfl (aX (.agg (.read _ (l:=[.v (.bool a.s),sU false a.x]) rfl))) (by decide) (fun h=>by cases h) (Zt ha h1)
 refine o1 ?_;refine nl ?_;refine iL rfl ?_;refine sq ?_;refine rl ?_;refine o1 ?_;refine st ?_;refine nl ?_;refine rt ?_
 exact en (.inl rfl) rfl (aX (.agg (.cons (.id rfl) (.cons .nilf .nil)))) (by decide) (fun h=>by cases h) (by rw[ha.wrong h1];exact Bj)
theorem lE {b:Bool}{xs:List Nat}{K:Int}(hx:xs.length≤1099511627776) (hl:Lim 4294967296 xs) (hK:bK b (vl 4294967296 xs)=K):aD true Tryz.prog 108 [] [.one (tv (.bool b)),.one (.t (sU false xs))] (aN (kO K)):=by
 refine cB Tryz.func108 rfl Tryz.ntmps108 rfl aA rfl fun N w c0 h0=>?_
 refine sq ?_;refine rl ?_;refine al 0 ?_;refine nl ?_;refine sq ?_;refine rl ?_;refine o1 ?_;refine iS 1 (GX hx hl) QE ⟨a1 rfl,rfl⟩ ?_;refine o1 ?_;refine nl ?_;refine sq ?_
 refine rl ?_;refine o1 ?_;refine o1 ?_;refine WL.splitb (t:=9) rfl (fun h1=>?_) (fun h1=>?_)
 ·(iterate 6 refine o1 ?_);refine st ?_;refine nl ?_;refine rt ?_
  exact en (.inl rfl) rfl (aX (.agg (.cons (.id rfl) (.cons (.sl (trs:=aV (dg 4294967296 (vl 4294967296 xs))) rfl rfl (bR _) (bO _)) .nil)))) (by decide) (fun _=>Cq _ _) (hK▸tW (by rw[←Au rfl,h1,Bool.true_and];exact decide_eq_decide.2 (by omega)) (iM _ _).symm)
 (iterate 3 refine dM ?_);(iterate 3 refine o1 ?_);refine st ?_;refine nl ?_;refine rt ?_
 exact en (.inl rfl) rfl (aX (.agg (.cons (.id rfl) (.cons (.sl (trs:=aV (dg 4294967296 (vl 4294967296 xs))) rfl rfl (bR _) (bO _)) .nil)))) (by decide) (fun _=>Cq _ _) (hK▸tW (by rw[←Au rfl,h1];rfl) (iM _ _).symm)
theorem zJ {n:Int}(h1:-9223372036854775808≤n) (h2:n≤9223372036854775807):aD true Tryz.prog 76 [] [.one (tv (.int .i64 n))] (aN (kO n)):=by
 refine cB Tryz.func76 rfl Tryz.ntmps76 rfl aA rfl fun N w c0 h0=>?_
 obtain⟨hr1,hr2,hq1,hq2,hv1,hv2⟩:=Zs h1 h2
 refine sq ?_;refine rl ?_;refine al 0 ?_;refine nl ?_;refine sq ?_;refine rl ?_;(iterate 3 refine o1 ?_);refine o1 ?_ (hC:=(by exact⟨by omega,by simp only[gW];omega⟩))
 refine o1 ?_;refine o1 ?_;refine nl ?_;refine sq ?_;refine rl ?_;(iterate 6 refine o1 ?_)
 refine WL.cast (t:=14) (u':=.int .i64 (((Int.tmod n 4294967296).natAbs:Nat):Int)) rfl (aC (by omega)) ?_
 refine o1 ?_;refine WL.cast (t:=15) (u':=.int .u32 (((Int.tmod n 4294967296).natAbs:Nat):Int)) rfl (aC (by omega)) ?_
 (iterate 4 refine o1 ?_);refine WL.cast (t:=19) (u':=.int .i64 (((Int.tdiv n 4294967296).natAbs:Nat):Int)) rfl (aC (by omega)) ?_
 refine o1 ?_;refine WL.cast (t:=20) (u':=.int .u32 (((Int.tdiv n 4294967296).natAbs:Nat):Int)) rfl (aC (by omega)) ?_
 refine bs 1 ?_
 refine WL.sub (UO (i:=21) (zs:=[(Int.tmod n 4294967296).natAbs,(Int.tdiv n 4294967296).natAbs]) (zs':=[(Int.tmod n 4294967296).natAbs,(Int.tdiv n 4294967296).natAbs]) rfl rfl rfl rfl rfl) ?_
 refine iS 2 (lE (K:=n) (by simp) (Lim.cons (by omega) (Lim.cons (by omega) Lim.nil)) (MQ hv1)) cP ⟨a1 rfl,a1 rfl,rfl⟩ ?_
 refine st ?_;refine nl ?_;refine rt ?_
 exact en (.inl rfl) rfl (aX (.agg (.cons (.id rfl) (.cons (.sl (trs:=aV (dg 4294967296 (n).natAbs)) rfl rfl (bR _) (bO _)) .nil)))) (by decide) (fun _=>eM (n)) rfl
theorem NK {a b:Zi}{k k':Int}(ha:Zn a k) (hb:Zn b k'):aD true Tryz.prog 121 [] [gF a,gF b] (aN (.one (tv (.int .i64 (k-k').sign)))):=by
 refine cB Tryz.func121 rfl Tryz.ntmps121 rfl aA rfl fun N w c0 h0=>?_
 have hkl:=ha.len
 have hkl':=hb.len
 refine sq ?_;refine rl ?_;refine bx 0 ?_;refine bx 1 ?_;refine o1 ?_;refine nl ?_;refine sq ?_;refine rl ?_;refine ld ?_;refine ca (iG ha) nD ⟨aG rfl,rfl⟩ (kF (k)) ?_
 refine st ?_;refine nl ?_;refine sq ?_;refine rl ?_;refine ld ?_;refine ca (iG hb) nD ⟨aG rfl,rfl⟩ (kF (k')) ?_;refine st ?_;refine nl ?_;refine sq ?_;refine bl ?_;refine sq ?_
 refine rl ?_;refine o1 ?_;refine ld ?_;refine o1 ?_;refine WL.splitb (t:=12) rfl (fun h1=>?_) (fun h1=>?_)
 ·refine o1 ?_;refine ld ?_;refine WL.splitb (t:=14) rfl (fun h2=>?_) (fun h2=>?_)
  ·(iterate 3 refine o1 ?_);refine nl ?_;refine gE rfl ?_;refine sq ?_;refine rl ?_;refine o1 ?_;refine ld ?_;refine o1 ?_;refine WL.cast (t:=20) rfl (congrArg Value.bool h2) ?_
   refine o1 ?_;refine ld ?_;refine WL.cast (t:=22) rfl (congrArg Value.bool h1) ?_;(iterate 3 refine o1 ?_);refine nl ?_;refine gE rfl ?_;refine sq ?_;refine rl ?_;refine o1 ?_
   refine ld ?_;refine o1 ?_;refine nl ?_;refine iL (congrArg (fun b=>FV.one (tv (.bool b))) h1) ?_
   refine sq ?_;refine rl ?_;refine o1 ?_;refine ld ?_;refine o1 ?_;refine ld ?_
   refine ca (Jy (by omega) (aL (by omega) _) (by omega) (aL (by omega) _)) Ps ⟨a1 rfl,a1 rfl,rfl⟩ (.one (tv (.int .i64 (((vl 4294967296 (dg 4294967296 (k').natAbs):Nat):Int)-((vl 4294967296 (dg 4294967296 (k).natAbs):Nat):Int)).sign))) ?_
   refine o1 ?_;refine nl ?_;refine rt ?_;refine en (.inl rfl) rfl (aX (cN _)) (by decide) (fun _=>trivial) (congrArg (fun z=>FV.one (tv (.int .i64 z))) ?_)
   rw[bG,bG];exact GO h1 h2
  (iterate 3 refine o1 ?_);refine nl ?_;refine iL rfl ?_;refine sq ?_;refine rl ?_;refine o1 ?_;refine nl ?_;refine rt ?_
  refine en (.inl rfl) rfl (aX (cN _)) (by decide) (fun _=>trivial) (congrArg (fun z=>FV.one (tv (.int .i64 z))) ?_)
  exact GM h1 h2
 (iterate 3 refine dM ?_);refine o1 ?_;refine o1 ?_;refine nl ?_;refine gE rfl ?_;refine sq ?_;refine rl ?_;refine o1 ?_;refine ld ?_;refine o1 ?_
 refine WL.splitb (t:=20) rfl (fun h3=>?_) (fun h3=>?_)
 ·refine o1 ?_;refine ld ?_;refine WL.cast (t:=22) rfl (congrArg Value.bool h1) ?_;(iterate 3 refine o1 ?_);refine nl ?_;refine iL rfl ?_;refine sq ?_;refine rl ?_;refine o1 ?_
  refine nl ?_;refine rt ?_;refine en (.inl rfl) rfl (aX (cN _)) (by decide) (fun _=>trivial) (congrArg (fun z=>FV.one (tv (.int .i64 z))) ?_)
  exact GN h1 h3
 (iterate 3 refine dM ?_);refine o1 ?_;refine o1 ?_;refine nl ?_;refine gE rfl ?_;refine sq ?_;refine rl ?_;refine o1 ?_;refine ld ?_;refine o1 ?_;refine nl ?_
 refine gE (congrArg (fun b=>FV.one (tv (.bool b))) h1) ?_
 refine sk ?_;refine sq ?_;refine rl ?_;refine o1 ?_;refine ld ?_;refine o1 ?_;refine ld ?_
 refine ca (Jy (by omega) (aL (by omega) _) (by omega) (aL (by omega) _)) Ps ⟨a1 rfl,a1 rfl,rfl⟩ (.one (tv (.int .i64 (((vl 4294967296 (dg 4294967296 (k).natAbs):Nat):Int)-((vl 4294967296 (dg 4294967296 (k').natAbs):Nat):Int)).sign))) ?_
 refine o1 ?_;refine nl ?_;refine rt ?_;refine en (.inl rfl) rfl (aX (cN _)) (by decide) (fun _=>trivial) (congrArg (fun z=>FV.one (tv (.int .i64 z))) ?_)
 rw[bG,bG];exact GP h1 h3
theorem rD {a:Zi}{k:Int}(ha:Zn a k):aD true Tryz.prog 91 [] [gF a] (aN (.one (tv (.int .i64 k.sign)))):=by
 refine cB Tryz.func91 rfl Tryz.ntmps91 rfl aA rfl fun N w c0 h0=>?_
 have hkl:=ha.len
 refine sq ?_;refine rl ?_;refine bx 0 ?_;refine o1 ?_;refine nl ?_;refine sq ?_;refine rl ?_;refine ld ?_;refine o1 ?_
 refine ca (NK ha UP) QC ⟨aG rfl,QU rfl (.cons .t (.cons .nil .nil)),rfl⟩ (.one (tv (.int .i64 ((k)-(0)).sign))) ?_;refine o1 ?_;refine nl ?_;refine rt ?_
 exact en (.inl rfl) rfl (aX (cN _)) (by decide) (fun _=>trivial) (congrArg (fun z=>FV.one (tv (.int .i64 z))) (by rw[Int.sub_zero]))
theorem Gr {a:Zi}{k:Int}(ha:Zn a k):aD true Tryz.prog 95 [] [gF a] (aN (kO (-k))):=by
 refine cB Tryz.func95 rfl Tryz.ntmps95 rfl aA rfl fun N w c0 h0=>?_
 have hkl:=ha.len
 refine sq ?_;refine rl ?_;refine bx 0 ?_;refine al 1 ?_;refine nl ?_;refine sq ?_;refine rd [0,1] (fun i=>[8].contains i) mixed ?_
 refine aO 0 ?_;refine aO 4 ?_;refine bD 1 rfl (iG ha) nD ⟨aG rfl,rfl⟩ (kF (k)) ?_;refine df 2 ?_;refine df 3 ?_;refine bD 5 rfl (iG ha) nD ⟨aG rfl,rfl⟩ (kF (k)) ?_
 refine df 6 ?_;refine lG 2 7 rfl (lE (K:=-k) (by omega) (aL (by omega) _) (by rw[bG];exact Nl k)) cP ⟨a1 rfl,a1 rfl,rfl⟩ ?_
 refine dst 8 ?_;refine aQ ?_;refine rt ?_
 exact en (.inl rfl) rfl (aX (.agg (.cons (.id rfl) (.cons (.sl (trs:=aV (dg 4294967296 (-k).natAbs)) rfl rfl (bR _) (bO _)) .nil)))) (by decide) (fun _=>eM (-k)) rfl
theorem Rh {a b:Zi}{k k':Int}(ha:Zn a k) (hb:Zn b k'):aD true Tryz.prog 79 [] [gF a,gF b] (aN (kO (k+k'))):=by
 refine cB Tryz.func79 rfl Tryz.ntmps79 rfl aA rfl fun N w c0 h0=>?_
 have hkl:=ha.len
 have hkl':=hb.len
 refine sq ?_;refine rl ?_;refine bx 0 ?_;refine bx 1 ?_;refine al 2 ?_;refine nl ?_;refine sq ?_;refine rl ?_;refine ld ?_;refine ca (iG ha) nD ⟨aG rfl,rfl⟩ (kF (k)) ?_
 refine st ?_;refine nl ?_;refine sq ?_;refine rl ?_;refine ld ?_;refine ca (iG hb) nD ⟨aG rfl,rfl⟩ (kF (k')) ?_;refine st ?_;refine nl ?_;refine sq ?_;refine sq ?_;refine rl ?_
 refine o1 ?_;refine ld ?_;refine o1 ?_;refine ld ?_;refine o1 ?_;refine nl ?_;refine nK rfl (fun h1=>?_) (fun h1=>?_)
 ·refine sq ?_;refine rd [0,1,2] (fun i=>[8].contains i) mixed ?_
  refine dv 0 ?_;refine aO 1 ?_;refine dv 2 ?_;refine aO 3 ?_;refine dv 4 ?_;refine aO 5 ?_
  have hn2:=Cp (xs:=(dg 4294967296 (k).natAbs)) (ys:=(dg 4294967296 (k').natAbs)) (aL (by omega) _) (aL (by omega) _)
  refine bD 6 rfl (NJ (by omega) (aL (by omega) _) (by omega) (aL (by omega) _)) QB ⟨a1 rfl,a1 rfl,rfl⟩ (.one (.t (sU false (dg 4294967296 (vl 4294967296 (dg 4294967296 (k).natAbs)+vl 4294967296 (dg 4294967296 (k').natAbs)))))) ?_
  refine lG 3 7 rfl (lE (K:=k+k') (by omega) (aL (by omega) _) (by simp only[cA (B:=4294967296) (by omega)];exact Ed rfl (eq_of_beq h1))) cP ⟨a1 rfl,a1 rfl,rfl⟩ ?_
  refine dst 8 ?_;refine aQ ?_;refine rt ?_
  exact en (.inl rfl) rfl (aX (.agg (.cons (.id rfl) (.cons (.sl (trs:=aV (dg 4294967296 (k+k').natAbs)) rfl rfl (bR _) (bO _)) .nil)))) (by decide) (fun _=>eM (k+k')) rfl
 refine sk ?_;refine sq ?_;refine rl ?_;refine o1 ?_;refine ld ?_;refine o1 ?_;refine ld ?_
 have hn3:=Nm (xs:=(dg 4294967296 (k).natAbs)) (ys:=(dg 4294967296 (k').natAbs)) (aL (by omega) _)
 refine ca (Vo (by omega) (aL (by omega) _) (by omega) (aL (by omega) _)) BS ⟨a1 rfl,a1 rfl,rfl⟩ (.tup [.one (.t (sU false (dg 4294967296 (vl 4294967296 (dg 4294967296 (k).natAbs)-vl 4294967296 (dg 4294967296 (k').natAbs))))),.one (tv (.int .i64 (if vl 4294967296 (dg 4294967296 (k).natAbs)<vl 4294967296 (dg 4294967296 (k').natAbs)then 2 else 0)))]) ?_
 (iterate 5 refine o1 ?_);refine nl ?_;refine sq ?_;refine sq ?_;refine rl ?_;refine o1 ?_;refine o1 ?_;refine nl ?_;refine bN rfl (fun h4=>?_) (fun h4=>?_)
 ·refine sq ?_;refine rl ?_;refine o1 ?_;refine ld ?_;refine o1 ?_
  refine iS 3 (lE (K:=k+k') (by omega) (aL (by omega) _) (by simp only[cA (B:=4294967296) (by omega)];exact Nn rfl (ne_of_beq_false h1) (fun h8=>by rw[bG,bG,if_pos h8]at h4;omega))) cP ⟨a1 rfl,a1 rfl,rfl⟩ ?_
  refine st ?_;refine nl ?_;refine rt ?_
  exact en (.inl rfl) rfl (aX (.agg (.cons (.id rfl) (.cons (.sl (trs:=aV (dg 4294967296 (k+k').natAbs)) rfl rfl (bR _) (bO _)) .nil)))) (by decide) (fun _=>eM (k+k')) rfl
 refine sk ?_;refine sq ?_;refine rl ?_;refine o1 ?_;refine ld ?_;refine o1 ?_;refine ld ?_
 have hn5:=Nm (xs:=(dg 4294967296 (k').natAbs)) (ys:=(dg 4294967296 (k).natAbs)) (aL (by omega) _)
 refine ca (Vo (by omega) (aL (by omega) _) (by omega) (aL (by omega) _)) BS ⟨a1 rfl,a1 rfl,rfl⟩ (.tup [.one (.t (sU false (dg 4294967296 (vl 4294967296 (dg 4294967296 (k').natAbs)-vl 4294967296 (dg 4294967296 (k).natAbs))))),.one (tv (.int .i64 (if vl 4294967296 (dg 4294967296 (k').natAbs)<vl 4294967296 (dg 4294967296 (k).natAbs)then 2 else 0)))]) ?_
 (iterate 4 refine o1 ?_);refine nl ?_;refine sq ?_;refine rl ?_;refine o1 ?_;refine ld ?_;refine o1 ?_
 refine iS 3 (lE (K:=k+k') (by omega) (aL (by omega) _) (by simp only[cA (B:=4294967296) (by omega)];exact No rfl (ne_of_beq_false h1) (Decidable.byContradiction fun h8=>h4 (by rw[bG,bG,if_neg h8])))) cP ⟨a1 rfl,a1 rfl,rfl⟩ ?_
 refine st ?_;refine nl ?_;refine rt ?_
 exact en (.inl rfl) rfl (aX (.agg (.cons (.id rfl) (.cons (.sl (trs:=aV (dg 4294967296 (k+k').natAbs)) rfl rfl (bR _) (bO _)) .nil)))) (by decide) (fun _=>eM (k+k')) rfl
theorem IH {a b:Zi}{k k':Int}(ha:Zn a k) (hb:Zn b k'):aD true Tryz.prog 133 [] [gF a,gF b] (aN (kO (k-k'))):=by
 refine cB Tryz.func133 rfl Tryz.ntmps133 rfl aA rfl fun N w c0 h0=>?_
 have hkl:=ha.len
 have hkl':=hb.len
 refine sq ?_;refine rl ?_;refine bx 0 ?_;refine bx 1 ?_;refine al 2 ?_;refine nl ?_;refine sq ?_;refine rd [0,1,2] (fun i=>[4].contains i) mixed ?_
 refine aO 0 ?_;refine aO 1 ?_;have hn1:=jO (k')
 refine bD 2 rfl (Gr hb) Ww ⟨aG rfl,rfl⟩ (kF (-k')) ?_;refine lG 3 3 rfl (Rh ha (Zn.of (k:=-k') (by omega))) II ⟨aG rfl,aG rfl,rfl⟩ ?_
 refine dst 4 ?_;refine aQ ?_;refine rt ?_
 exact en (.inl rfl) rfl (aX (.agg (.cons (.id rfl) (.cons (.sl (trs:=aV (dg 4294967296 (k+-k').natAbs)) rfl rfl (bR _) (bO _)) .nil)))) (by decide) (fun _=>eM (k+-k')) rfl
end Go.Proofs.YtbbabfkgdnkehaaGreat
