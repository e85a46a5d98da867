/- Part 9 of a proof: Ve to A3. -/
import Derived.Test.YtbbabfkgdnkehaaGreatM8
import Derived.Test.YtbbabfkgdnkehaaGreatM7
import Derived.Laws.BytesArg
import Derived.Test.YtbbabfkgdnkehaaGreatM5
set_option maxRecDepth 100000
set_option linter.unusedVariables false
set_option linter.unusedSimpArgs false
namespace Go.Proofs.YtbbabfkgdnkehaaGreat
open Go Go.RowKit
structure Ur where
 v:Int
 e:Int
 y:Int
 n:Rat
def jB (U:List Ur) (p:Ur→Bool):Rat:=nC ((U.filter p).map Ur.n)
theorem qB {U:List Ur}{u:Ur}{p:Ur→Bool}:jB (U++[u]) p=if p u then jB U p+u.n else jB U p:=by
 unfold jB
 rw[List.filter_append,List.map_append]
 split
 ·rename_i h
  rw[List.filter_cons_of_pos h]
  exact Vp _ _
 rename_i h
 rw[List.filter_cons_of_neg h]
 simp
def fS (U:List Ur) (y e:Int):Rat:=jB U fun u=>decide (u.v=y)&&decide (u.e=e)
def dR (U:List Ur) (y:Int):Rat:=jB U fun u=>decide (u.y=y)
def dS (U:List Ur) (y e:Int):Rat:=jB U fun u=>decide (u.y=y)&&decide (u.e=e)
structure Rg where
 f:Nat
 E:Nat
 mem:Nat→Nat→Bool
 base:Nat→Nat→Rat
 lim:Nat→Rat
namespace Rg
def isV (R:Rg) (y e:Nat):Bool:= !R.mem y e&&decide (R.base y e<0)
def los (R:Rg) (y e:Nat):Rat:=bif R.isV y e then-(R.base y e)else 0
def left (R:Rg) (U:List Ur) (y e:Nat):Rat:=R.los y e-fS U y e
def room (R:Rg) (U:List Ur) (e t:Nat):Rat:=aO (R.base t e-dS U t e) [R.lim t-dR U t]
def us (U:List Ur) (y e:Int) (t:Nat) (n:Rat):List Ur:=if 0<n then U++[⟨y,e,t,n⟩]else U
def use (R:Rg) (U:List Ur) (y e t:Nat):List Ur:=us U y e t (aO (R.left U y e) [R.room U e t])
def vl (R:Rg):Nat→List (Nat×Nat)
 | 0=>[]
 | y+1=>R.vl y++((List.range R.E).filter (R.isV y)).map fun e=>(y,e)
def may (R:Rg) (t:Nat) (p:Nat×Nat):Bool:=decide (t≤p.1+R.f)&&R.mem t p.2
def step (R:Rg) (U:List Ur) (t:Nat):List Ur:=((R.vl t).filter (R.may t)).foldl (fun U p=>R.use U p.1 p.2 t) U
def run (R:Rg):Nat→List Ur
 | 0=>[]
 | t+1=>R.step (R.run t) t
def DE (R:Rg) (y:Nat):Nat→Nat
 | 0=>1
 | e+1=>R.DE y e*(R.base y e).den
def DY (R:Rg):Nat→Nat
 | 0=>1
 | y+1=>R.DY y*((R.lim y).den*R.DE y R.E)
structure Ok (R:Rg) (N:Nat):Prop where
 base:∀y e,y<N→e<R.E→Sz 4 (R.base y e)
 lim:∀y,y<N→Sz 4 (R.lim y)
 l0:∀y,y<N→0≤R.lim y
 n:N≤10
 e:R.E≤6
 f:R.f≤40
structure Iv (R:Rg) (N:Nat) (U:List Ur):Prop where
 v:∀y e,y<N→e<R.E→(0≤R.left U y e∧R.left U y e≤R.los y e)∧Mu (R.DY N) (R.left U y e)
 b:∀t e,t<N→e<R.E→(0≤dS U t e∧dS U t e≤Wb (R.base t e))∧Mu (R.DY N) (dS U t e)
 y:∀t,t<N→(0≤dR U t∧dR U t≤R.lim t)∧Mu (R.DY N) (dR U t)
end Rg
section
variable {R:Rg}{U:List Ur}{N y y' e e' t t' k n:Nat}{m:Rat}{I J:List Nat}
open Rg
theorem wV {y e y' e':Int}:fS (U++[⟨y,e,(t:Int),m⟩]) y' e'=if y=y'∧e=e' then fS U y' e'+m else fS U y' e':=by
 unfold fS
 rw[qB]
 simp only[Bool.and_eq_true,decide_eq_true_eq]
theorem Ce {y e:Int}{t':Int}:dR (U++[⟨y,e,(t:Int),m⟩]) t'=if(t:Int)=t' then dR U t'+m else dR U t':=by
 unfold dR
 rw[qB]
 simp only[decide_eq_true_eq]
theorem pB {y e:Int}{t' e':Int}:dS (U++[⟨y,e,(t:Int),m⟩]) t' e'=if(t:Int)=t'∧e=e' then dS U t' e'+m else dS U t' e':=by
 unfold dS
 rw[qB]
 simp only[Bool.and_eq_true,decide_eq_true_eq]
theorem mB {y e:Int}(h:¬0<m):us U y e t m=U:=if_neg h
theorem jV {y e:Int}(h:0<m):us U y e t m=U++[⟨y,e,t,m⟩]:=if_pos h
theorem Cp (h:0≤m):R.left (us U y e t m) y e=R.left U y e-m:=by
 by_cases hp:0<m
 ·rw[jV hp]
  unfold Rg.left
  rw[wV,if_pos ⟨rfl,rfl⟩]
  grind
 rw[mB hp]
 grind
theorem mA (h:¬(y=y'∧e=e')):R.left (us U y e t m) y' e'=R.left U y' e':=by
 by_cases hp:0<m
 ·rw[jV hp]
  unfold Rg.left
  rw[wV,if_neg (by omega)]
 rw[mB hp]
theorem wN (h:¬(y=y'∧e=e')):R.left (R.use U y e t) y' e'=R.left U y' e':=mA h
theorem We:0≤R.los y e:=by
 unfold Rg.los Rg.isV
 cases R.mem y e
 ·by_cases h:R.base y e<0
  ·simp[h]
   grind
  simp[h]
 simp
theorem Am (h:R.isV y e=false):R.los y e=0:=by unfold Rg.los;rw[h];rfl
theorem sA (h:R.isV y e=true):R.los y e=-(R.base y e)∧0<R.los y e:=by
 have e1:R.los y e=-(R.base y e):=by unfold Rg.los;rw[h];rfl
 refine⟨e1,?_⟩
 rw[e1]
 unfold Rg.isV at h
 simp at h
 grind
theorem fM {p:Nat×Nat}:∀{t:Nat},p∈R.vl t↔p.1<t∧p.2<R.E∧R.isV p.1 p.2=true
 | 0=>by simp[Rg.vl]
 | t+1=>by
  unfold Rg.vl
  rw[List.mem_append,fM (t:=t)]
  constructor
  ·rintro(h | h)
   ·exact⟨by omega,h.2⟩
   obtain⟨e,he,rfl⟩:=List.mem_map.1 h
   rw[List.mem_filter,List.mem_range]at he
   exact⟨by dsimp only;omega,he⟩
  rintro⟨h1,h2,h3⟩
  by_cases h:p.1<t
  ·exact .inl ⟨h,h2,h3⟩
  refine .inr (List.mem_map.2 ⟨p.2,?_,?_⟩)
  ·rw[List.mem_filter,List.mem_range]
   have:p.1=t:=by omega
   rw[←this]
   exact⟨h2,h3⟩
  exact Prod.ext (by dsimp only;omega) rfl
def plt (p q:Nat×Nat):Prop:=p.1<q.1∨(p.1=q.1∧p.2<q.2)
theorem Aq:∀t:Nat,(R.vl t).Pairwise plt
 | 0=>List.Pairwise.nil
 | t+1=>by
  unfold Rg.vl
  refine List.pairwise_append.2 ⟨Aq t,?_,fun p hp q hq=>?_⟩
  ·rw[List.pairwise_map]
   exact(List.pairwise_lt_range.filter _).imp fun h=>.inr ⟨rfl,h⟩
  obtain⟨e,he,rfl⟩:=List.mem_map.1 hq
  exact .inl (fM.1 hp).1
theorem nA (t:Nat):(R.vl t).Nodup:=(Aq t).imp fun h e=>by subst e;unfold plt at h;omega
theorem qA (h:R.E≤6):∀t:Nat,(R.vl t).length≤6*t
 | 0=>Nat.le_refl _
 | t+1=>by
  have h1:=qA h t
  have h2:=List.length_filter_le (R.isV t) (List.range R.E)
  unfold Rg.vl
  rw[List.length_append,List.length_map]
  rw[List.length_range]at h2
  omega
theorem Wf:∀e,0<R.DE y e
 | 0=>Nat.one_pos
 | e+1=>Nat.mul_pos (Wf e) (R.base y e).den_pos
theorem Wg:∀t,0<R.DY t
 | 0=>Nat.one_pos
 | t+1=>Nat.mul_pos (Wg t) (Nat.mul_pos (R.lim t).den_pos (Wf _))
theorem DH:∀{k:Nat},e<k→Mu (R.DE y k) (R.base y e)
 | k+1,h=>by
  rcases Nat.lt_succ_iff_lt_or_eq.1 h with h | rfl
  ·exact(DH h).up'
  exact(Mu.self _).up
theorem Dr:∀{N:Nat},y<N→e<R.E→Mu (R.DY N) (R.base y e)
 | N+1,h,he=>by
  rcases Nat.lt_succ_iff_lt_or_eq.1 h with h | rfl
  ·exact(Dr h he).up'
  exact((DH he).up).up
theorem Pb:∀{N:Nat},y<N→Mu (R.DY N) (R.lim y)
 | N+1,h=>by
  rcases Nat.lt_succ_iff_lt_or_eq.1 h with h | rfl
  ·exact(Pb h).up'
  exact((Mu.self _).up').up
theorem Ds (h:y<N) (he:e<R.E):Mu (R.DY N) (R.los y e):=by
 unfold Rg.los
 cases R.isV y e
 ·exact Mu.zero
 exact(Dr h he).neg
theorem OD (h:∀e,e<k→Sz 4 (R.base y e)):(dg 4294967296 (R.DE y k)).length≤1+4*k:=by
 induction k with
 | zero=>exact cW (by omega) (by simp[Rg.DE])
 | succ k ih=>
  have h1:=ih fun e he=>h e (by omega)
  have h2:=(h k (by omega)).2
  have h4:=mL (R.DE y k) (R.base y k).den
  unfold Rg.DE
  omega
theorem Wh (hE:R.E≤6):∀{N:Nat},(∀y e,y<N→e<R.E→Sz 4 (R.base y e))→(∀y,y<N→Sz 4 (R.lim y))→(dg 4294967296 (R.DY N)).length≤1+29*N
 | 0,_,_=>cW (by omega) (by simp[Rg.DY])
 | N+1,h,h'=>by
  have h1:=Wh hE (N:=N) (fun y e hy he=>h y e (by omega) he) fun y hy=>h' y (by omega)
  have h2:=(h' N (by omega)).2
  have h3:=OD (R:=R) (y:=N) (k:=R.E) fun e he=>h N e (by omega) he
  have h4:=mL (R.DY N) ((R.lim N).den*R.DE N R.E)
  have h5:=mL (R.lim N).den (R.DE N R.E)
  show(dg 4294967296 (R.DY N*((R.lim N).den*R.DE N R.E))).length≤_
  omega
theorem Rg.Ok.sz (h:R.Ok N){q:Rat}(h0:0≤q) (hB:q≤(BB:Rat)) (hm:Mu (R.DY N) q):Sz 300 q:=hm.sz h0 hB (Wg N) (by have:=Wh h.e h.base h.lim;have:=h.n;have:=NY;omega)
theorem Wi:(0:Rat)≤(BB:Rat):=by exact_mod_cast Nat.zero_le BB
theorem Rg.Ok.los_le (h:R.Ok N) (hy:y<N) (he:e<R.E):R.los y e≤(BB:Rat):=by
 have h1:-(R.base y e)≤(BB:Rat):=Re (An (h.base y e hy he))
 have:=Wi
 unfold Rg.los
 cases R.isV y e
 ·exact this
 exact h1
theorem Rg.Ok.abv_le (h:R.Ok N) (hy:y<N) (he:e<R.E):Wb (R.base y e)≤(BB:Rat):=by
 have h1:=Re (h.base y e hy he)
 have:=Wi
 rw[Kq]
 split <;> grind
theorem Rg.Ok.sz_los (h:R.Ok N) (hy:y<N) (he:e<R.E):Sz 300 (R.los y e):=h.sz We (h.los_le hy he) (Ds hy he)
theorem Rg.Iv.sz_left (hI:R.Iv N U) (h:R.Ok N) (hy:y<N) (he:e<R.E):Sz 300 (R.left U y e):=h.sz (hI.v y e hy he).1.1 (Rat.le_trans (hI.v y e hy he).1.2 (h.los_le hy he)) (hI.v y e hy he).2
theorem Rg.Iv.sz_eIn (hI:R.Iv N U) (h:R.Ok N) (ht:t<N) (he:e<R.E):Sz 300 (dS U t e):=h.sz (hI.b t e ht he).1.1 (Rat.le_trans (hI.b t e ht he).1.2 (h.abv_le ht he)) (hI.b t e ht he).2
theorem Rg.Iv.sz_yIn (hI:R.Iv N U) (h:R.Ok N) (ht:t<N):Sz 300 (dR U t):=h.sz (hI.y t ht).1.1 (Rat.le_trans (hI.y t ht).1.2 (Re (h.lim t ht))) (hI.y t ht).2
theorem OE:fS U y e=R.los y e-R.left U y e:=by unfold Rg.left;grind
theorem Rg.Iv.sz_vOf (hI:R.Iv N U) (h:R.Ok N) (hy:y<N) (he:e<R.E):Sz 300 (fS U y e):=by
 obtain⟨⟨h1,h2⟩,h3⟩:=hI.v y e hy he
 have h4:=h.los_le hy he
 rw[OE (R:=R)]
 exact h.sz (by grind) (by grind) ((Ds hy he).sub h3)
theorem Rg.Iv.nil (h:R.Ok N):R.Iv N []:=by
 refine⟨fun y e hy he=>?_,fun t e ht he=>?_,fun t ht=>?_⟩
 ·have e1:R.left [] y e=R.los y e:=by
   unfold Rg.left
   show R.los y e-0=_
   grind
  rw[e1]
  exact⟨⟨We,Rat.le_refl⟩,Ds hy he⟩
 ·exact⟨⟨Rat.le_refl,NT _⟩,.zero⟩
 exact⟨⟨Rat.le_refl,h.l0 t ht⟩,.zero⟩
theorem tL:R.room U e t≤R.base t e-dS U t e:=pZ _ _
theorem Io:R.room U e t≤R.lim t-dR U t:=nF _ _
theorem Rg.Iv.us (hI:R.Iv N U) (hy:y<N) (he:e<R.E) (ht:t<N) (h1:m≤R.left U y e) (h2:m≤R.room U e t) (hm:Mu (R.DY N) m):R.Iv N (us U y e t m):=by
 by_cases h0:0<m
 ·have h3:=Rat.le_trans h2 tL
  have h4:=Rat.le_trans h2 Io
  refine⟨fun y' e' hy' he'=>?_,fun t' e' ht' he'=>?_,fun t' ht'=>?_⟩
  ·obtain⟨⟨k1,k2⟩,k3⟩:=hI.v y' e' hy' he'
   by_cases hq:y=y'∧e=e'
   ·obtain⟨rfl,rfl⟩:=hq
    rw[Cp (by grind)]
    exact⟨⟨by grind,by grind⟩,k3.sub hm⟩
   rw[mA hq]
   exact⟨⟨k1,k2⟩,k3⟩
  ·obtain⟨⟨k1,k2⟩,k3⟩:=hI.b t' e' ht' he'
   rw[jV h0,pB]
   split
   ·rename_i hq
    have e1:t=t':=by omega
    have e2:e=e':=by omega
    subst e1
    subst e2
    refine⟨⟨by grind,?_⟩,k3.add hm⟩
    rw[NU (by grind)]
    grind
   exact⟨⟨k1,k2⟩,k3⟩
  obtain⟨⟨k1,k2⟩,k3⟩:=hI.y t' ht'
  rw[jV h0,Ce]
  split
  ·rename_i hq
   have e1:t=t':=by omega
   subst e1
   exact⟨⟨by grind,by grind⟩,k3.add hm⟩
  exact⟨⟨k1,k2⟩,k3⟩
 rw[mB h0]
 exact hI
theorem In (hI:R.Iv N U) (he:e<R.E) (ht:t<N):Mu (R.DY N) (R.room U e t):=((Dr ht he).sub (hI.b t e ht he).2).min ((Pb ht).sub (hI.y t ht).2)
theorem Rg.Iv.use (hI:R.Iv N U) (hy:y<N) (he:e<R.E) (ht:t<N):R.Iv N (R.use U y e t):=hI.us hy he ht (pZ _ _) (nF _ _) ((hI.v y e hy he).2.min (In hI he ht))
theorem Rg.Iv.fold (ht:t<N):∀(L:List (Nat×Nat)){U:List Ur},R.Iv N U→(∀p∈L,p.1<N∧p.2<R.E)→R.Iv N (L.foldl (fun U p=>R.use U p.1 p.2 t) U)
 | [],_,h,_=>h
 | p::L,U,h,hL=>by
  have h1:=hL p (List.mem_cons_self ..)
  exact Rg.Iv.fold ht L (h.use h1.1 h1.2 ht) fun q hq=>hL q (List.mem_cons_of_mem _ hq)
theorem Rg.Iv.step (hI:R.Iv N U) (ht:t<N):R.Iv N (R.step U t):=hI.fold ht _ fun p hp=>by
 have:=fM.1 (List.mem_filter.1 hp).1
 exact⟨by omega,this.2.1⟩
theorem Rg.Ok.run (h:R.Ok N):∀{k:Nat},k≤N→R.Iv N (R.run k)
 | 0,_=>.nil h
 | k+1,hk=>(Rg.Ok.run h (k:=k) (by omega)).step (by omega)
end
def Rg.wl (R:Rg) (U:List Ur) (e:Nat) (I:List Nat):List (Int×Rat):=I.filterMap fun y=>if 0<R.left U y e then some ((y:Int),R.left U y e)else none
def Rg.I (R:Rg) (t:Nat):List Nat:=List.range' (t-R.f) (t-(t-R.f))
def Rg.J (R:Rg) (t:Nat):List Nat:=(R.I t++[t]).filter fun(i:Nat)=> !(!decide ((i:Int)<(t:Int)-(R.f:Int)+1))
section
variable {R:Rg}{U U':List Ur}{N y y' e e' t t' k n:Nat}{m:Rat}{I J:List Nat}
open Rg
theorem jM {i:Nat}:i∈R.I k↔i<k∧k≤i+R.f:=by
 unfold Rg.I
 rw[List.mem_range'_1]
 omega
theorem Pw:(R.I k).Pairwise (· < ·):=List.pairwise_lt_range' ..
theorem rY:(R.I k).length≤k:=by
 unfold Rg.I
 rw[List.length_range']
 omega
theorem iV (h:0<R.left U y e):R.wl U e (y::I)=((y:Int),R.left U y e)::R.wl U e I:=by
 unfold Rg.wl
 rw[List.filterMap_cons,if_pos h]
theorem kV (h:¬0<R.left U y e):R.wl U e (y::I)=R.wl U e I:=by
 unfold Rg.wl
 rw[List.filterMap_cons,if_neg h]
theorem yR:∀{I:List Nat},(∀i∈I,R.left U i e=R.left U' i e)→R.wl U e I=R.wl U' e I
 | [],_=>rfl
 | i::I,h=>by
  have e1:=h i (List.mem_cons_self ..)
  have ih:=yR (I:=I) fun j hj=>h j (List.mem_cons_of_mem _ hj)
  by_cases hp:0<R.left U i e
  ·rw[iV hp,iV (by rw[←e1];exact hp),e1,ih]
  rw[kV hp,kV (by rw[←e1];exact hp),ih]
theorem FD:R.wl U e (I++J)=R.wl U e I++R.wl U e J:=by simp[Rg.wl]
theorem iG {x:Int×Rat}:x∈R.wl U e I↔∃i∈I,x=((i:Int),R.left U i e)∧0<R.left U i e:=by
 unfold Rg.wl
 rw[List.mem_filterMap]
 constructor
 ·rintro⟨i,hi,h⟩
  split at h
  ·rename_i hp
   injection h with h
   exact⟨i,hi,h.symm,hp⟩
  cases h
 rintro⟨i,hi,rfl,hp⟩
 exact⟨i,hi,if_pos hp⟩
theorem rZ:(R.wl U e I).length≤I.length:=List.length_filterMap_le ..
theorem Bx {p:Int→Bool}:(R.wl U e I).filter (fun x=>p x.1)=R.wl U e (I.filter fun(i:Nat)=>p (i:Int)):=by
 induction I with
 | nil=>rfl
 | cons i I ih=>
  by_cases hp:0<R.left U i e
  ·rw[iV hp]
   cases hq:p (i:Int)with
   | true=>rw[List.filter_cons_of_pos (by exact hq),List.filter_cons_of_pos (by exact hq),iV hp,ih]
   | false=>rw[List.filter_cons_of_neg (by simp[hq]),List.filter_cons_of_neg (by simp[hq]),ih]
  rw[kV hp,ih]
  cases hq:p (i:Int)with
  | true=>rw[List.filter_cons_of_pos (by exact hq),kV hp]
  | false=>rw[List.filter_cons_of_neg (by simp[hq])]
theorem HU:R.I (k+1)=(R.I k++[k]).filter fun(i:Nat)=> !decide ((i:Int)<(k:Int)-(R.f:Int)+1):=by
 have e1:R.I k++[k]=List.range' (k-R.f) (k+1-(k-R.f)):=by
  unfold Rg.I
  rw[show k+1-(k-R.f)=(k-(k-R.f))+1 by omega,List.range'_concat,show k-R.f+1*(k-(k-R.f))=k by omega]
 rw[e1]
 unfold Rg.I
 by_cases h:k<R.f
 ·rw[show k+1-R.f=0 by omega,show k-R.f=0 by omega]
  symm
  rw[List.filter_eq_self]
  intro i hi
  simp
  omega
 rw[show k+1-(k-R.f)=R.f+1 by omega,List.range'_succ,List.filter_cons_of_neg (by simp;omega),show k+1-(k+1-R.f)=R.f by omega,show k-R.f+1=k+1-R.f by omega]
 symm
 rw[List.filter_eq_self]
 intro i hi
 have:=List.mem_range'_1.1 hi
 simp
 omega
theorem KZ:dT (fun x:Int×Rat=>decide (x.1<(t:Int)-(R.f:Int)+1)) (R.wl U e (R.I t++[t]))=R.wl U e (R.I (t+1)):=by
 unfold dT
 rw[Bx (p:=fun z=> !decide (z<(t:Int)-(R.f:Int)+1)),HU]
theorem LA:dT (fun x:Int×Rat=> !decide (x.1<(t:Int)-(R.f:Int)+1)) (R.wl U e (R.I t++[t]))=R.wl U e (R.J t):=by
 unfold dT
 rw[Bx (p:=fun z=> !(!decide (z<(t:Int)-(R.f:Int)+1)))]
 rfl
theorem Id {i:Nat}:i∈R.J t↔i+R.f=t:=by
 unfold Rg.J
 rw[List.mem_filter,List.mem_append,jM,List.mem_singleton]
 simp only[Bool.not_not,decide_eq_true_eq]
 omega
theorem Fg {fr:Int}:∀l:List (Int×Rat),bC fr l 0=(l,[],0)
 | []=>rfl
 | x::l=>by
  rw[Ow (fun h=>by exact absurd h.2 (by grind)),Fg l]
theorem Mh (hm:0<m) (hle:m≤R.left U y e):∀{I:List Nat},(∀i∈I,0≤R.left U i e)→I.Pairwise (· < ·)→y∈I→(bC (y:Int) (R.wl U e I) m).1.filter (fun x=> !lZ x.1 x.2)=R.wl (us U y e t m) e I
 | [],_,_,h=>by cases h
 | i::I,h0,hp,h=>by
  have hp1:=List.pairwise_cons.1 hp
  have fl:∀L:List (Int×Rat),(∀x∈L,0<x.2)→L.filter (fun x=> !lZ x.1 x.2)=L:=fun L hL=>by
   rw[List.filter_eq_self]
   intro x hx
   simp only[lZ,Bool.not_eq_true',decide_eq_false_iff_not]
   have:=(kJ _).2 (hL x hx)
   omega
  by_cases hi:i=y
  ·subst hi
   have hpos:0<R.left U i e:=by grind
   rw[iV hpos,BF (x:=((i:Int),R.left U i e)) (Int.le_refl _) hm]
   have hq:aO (R.left U i e) [m]=m:=by rw[Ap];split <;> grind
   dsimp only
   rw[hq,show m-m=(0:Rat) by grind,Fg]
   dsimp only
   have hrest:R.wl (us U i e t m) e I=R.wl U e I:=yR fun j hj=>mA (by have:=hp1.1 j hj;omega)
   have hfl:=fl (R.wl U e I) fun x hx=>by
    obtain⟨j,_,rfl,h9⟩:=iG.1 hx
    exact h9
   have hl:=Cp (R:=R) (U:=U) (y:=i) (e:=e) (t:=t) (m:=m) (by grind)
   by_cases hz:0<R.left U i e-m
   ·rw[List.filter_cons_of_pos (by simp only[lZ,Bool.not_eq_true',decide_eq_false_iff_not];have:=(kJ _).2 hz;omega),hfl,iV (by rw[hl];exact hz),hl,hrest]
   have hz0:R.left U i e-m=0:=by grind
   rw[List.filter_cons_of_neg (by rw[hz0];simp[lZ]),hfl,kV (by rw[hl];exact hz),hrest]
  have hyI:y∈I:=by
   rcases List.mem_cons.1 h with h | h
   ·exact absurd h.symm hi
   exact h
  have hlt:=hp1.1 y hyI
  have ih:=Mh (I:=I) hm hle (fun j hj=>h0 j (List.mem_cons_of_mem _ hj)) hp1.2 hyI
  have hsame:=mA (R:=R) (U:=U) (t:=t) (m:=m) (y:=y) (e:=e) (y':=i) (e':=e) (by omega)
  by_cases hpos:0<R.left U i e
  ·rw[iV hpos,Ow (x:=((i:Int),R.left U i e)) (fun h9=>by have:=h9.1;dsimp only at this;omega)]
   dsimp only
   rw[List.filter_cons_of_pos (by simp only[lZ,Bool.not_eq_true',decide_eq_false_iff_not];have:=(kJ _).2 hpos;omega),ih,iV (by rw[hsame];exact hpos),hsame]
  rw[kV hpos,ih,kV (by rw[hsame];exact hpos)]
def Rg.wv (R:Rg) (U:List Ur) (p:Nat×Nat):Wv:=⟨p.1,p.2,R.left U p.1 p.2⟩
def Rg.wt0 (R:Rg) (U:List Ur) (t k:Nat):List Wv:=(List.range k).flatMap fun e=>bif R.mem t e then(R.wl U e (R.I t)).map fun x=>(⟨x.1,e,x.2⟩:Wv)else []
def Rg.wt (R:Rg) (U:List Ur) (t:Nat):List (Nat×Nat):=(R.vl t).filter fun p=>R.may t p&&decide (0<R.left U p.1 p.2)
theorem HV {x:Wv}:x∈R.wt0 U t k↔∃y e:Nat,e<k∧R.mem t e=true∧y∈R.I t∧0<R.left U y e∧x=⟨y,e,R.left U y e⟩:=by
 unfold Rg.wt0
 rw[List.mem_flatMap]
 constructor
 ·rintro⟨e,he,hx⟩
  rw[List.mem_range]at he
  cases hm:R.mem t e
  ·rw[hm]at hx
   cases hx
  rw[hm]at hx
  obtain⟨z,hz,rfl⟩:=List.mem_map.1 hx
  obtain⟨y,hy,rfl,hp⟩:=iG.1 hz
  exact⟨y,e,he,hm,hy,hp,rfl⟩
 rintro⟨y,e,he,hm,hy,hp,rfl⟩
 refine⟨e,List.mem_range.2 he,?_⟩
 rw[hm]
 exact List.mem_map.2 ⟨((y:Int),R.left U y e),iG.2 ⟨y,hy,rfl,hp⟩,rfl⟩
theorem Wj {α:Type}{f:α→Int}:∀{A B:List α},A.Pairwise (fun x y=>f x<f y)→B.Pairwise (fun x y=>f x<f y)→(∀x,x∈A↔x∈B)→A=B
 | [],[],_,_,_=>rfl
 | [],y::B,_,_,h=>absurd ((h y).2 (List.mem_cons_self ..)) (by simp)
 | x::A,[],_,_,h=>absurd ((h x).1 (List.mem_cons_self ..)) (by simp)
 | x::A,y::B,hA,hB,h=>by
  have h1:=List.pairwise_cons.1 hA
  have h2:=List.pairwise_cons.1 hB
  have e1:x=y:=by
   rcases List.mem_cons.1 ((h x).1 (List.mem_cons_self ..))with h3 | h3
   ·exact h3
   rcases List.mem_cons.1 ((h y).2 (List.mem_cons_self ..))with h4 | h4
   ·exact h4.symm
   have:=h1.1 y h4
   have:=h2.1 x h3
   omega
  subst e1
  congr 1
  refine Wj h1.2 h2.2 fun z=>?_
  constructor
  ·intro hz
   rcases List.mem_cons.1 ((h z).1 (List.mem_cons_of_mem _ hz))with rfl | h3
   ·exact absurd (h1.1 z hz) (by omega)
   exact h3
  intro hz
  rcases List.mem_cons.1 ((h z).2 (List.mem_cons_of_mem _ hz))with rfl | h3
  ·exact absurd (h2.1 z hz) (by omega)
  exact h3
theorem Mn (hI:I.Pairwise (· < ·)):(R.wl U e I).Pairwise fun x y=>x.1<y.1:=by
 induction I with
 | nil=>exact List.Pairwise.nil
 | cons i I ih=>
  have h1:=List.pairwise_cons.1 hI
  by_cases hp:0<R.left U i e
  ·rw[iV hp]
   refine List.pairwise_cons.2 ⟨fun x hx=>?_,ih h1.2⟩
   obtain⟨j,hj,rfl,_⟩:=iG.1 hx
   have:=h1.1 j hj
   dsimp only
   omega
  rw[kV hp]
  exact ih h1.2
theorem HW:(R.wt0 U t k).Pairwise fun x y=>x.e<y.e∨(x.e=y.e∧x.y<y.y):=by
 unfold Rg.wt0
 refine List.pairwise_flatMap.2 ⟨fun e _=>?_,List.pairwise_lt_range.imp fun{a b} h x hx y hy=>?_⟩
 ·cases R.mem t e
  ·exact List.Pairwise.nil
  show((R.wl U e (R.I t)).map fun x=>(⟨x.1,e,x.2⟩:Wv)).Pairwise _
  rw[List.pairwise_map]
  exact(Mn Pw).imp fun h=>.inr ⟨rfl,h⟩
 have hx1:x.e=(a:Int):=by
  cases h9:R.mem t a <;> rw[h9]at hx
  ·cases hx
  obtain⟨z,_,rfl⟩:=List.mem_map.1 hx
  rfl
 have hy1:y.e=(b:Int):=by
  cases h9:R.mem t b <;> rw[h9]at hy
  ·cases hy
  obtain⟨z,_,rfl⟩:=List.mem_map.1 hy
  rfl
 omega
theorem Wk:((R.wt U t).map (R.wv U)).Pairwise fun x y=>x.y<y.y∨(x.y=y.y∧x.e<y.e):=by
 rw[List.pairwise_map]
 refine List.Pairwise.imp (fun{p q} h=>?_) ((Aq t).filter _)
 unfold plt at h
 unfold Rg.wv
 dsimp only
 omega
theorem KO (hI:R.Iv N U) (ht:t≤N):dC (R.wt0 U t R.E)=(R.wt U t).map (R.wv U):=by
 refine qM (Wk.imp fun h=>by omega) fun z=>?_
 refine Wj (f:=Wv.e) ?_ ?_ fun x=>?_
 ·refine List.Pairwise.imp_of_mem (fun{a b} ha hb h=>?_) (Wk.filter _)
  have h1:=of_decide_eq_true (List.mem_filter.1 ha).2
  have h2:=of_decide_eq_true (List.mem_filter.1 hb).2
  omega
 ·refine List.Pairwise.imp_of_mem (fun{a b} ha hb h=>?_) (HW.filter _)
  have h1:=of_decide_eq_true (List.mem_filter.1 ha).2
  have h2:=of_decide_eq_true (List.mem_filter.1 hb).2
  omega
 rw[List.mem_filter,List.mem_filter,HV,List.mem_map]
 constructor
 ·rintro⟨⟨p,hp,rfl⟩,hz⟩
  refine⟨⟨p.1,p.2,?_⟩,hz⟩
  unfold Rg.wt at hp
  rw[List.mem_filter,fM]at hp
  obtain⟨⟨h1,h2,h3⟩,h4⟩:=hp
  unfold Rg.may at h4
  simp only[Bool.and_eq_true,decide_eq_true_eq]at h4
  exact⟨h2,h4.1.2,jM.2 ⟨h1,h4.1.1⟩,h4.2,rfl⟩
 rintro⟨⟨y,e,h1,h2,h3,h4,rfl⟩,hz⟩
 refine⟨⟨(y,e),?_,rfl⟩,hz⟩
 have h5:=jM.1 h3
 have h6:=(hI.v y e (by omega) h1).1.2
 have h7:R.isV y e=true:=by
  cases h8:R.isV y e
  ·rw[Am h8]at h6
   grind
  rfl
 unfold Rg.wt
 rw[List.mem_filter,fM]
 refine⟨⟨h5.1,h1,h7⟩,?_⟩
 unfold Rg.may
 simp only[Bool.and_eq_true,decide_eq_true_eq]
 exact⟨⟨h5.2,h2⟩,h4⟩
theorem BH (h:R.left U y e≤0):R.use U y e t=U:=mB (by have:=pZ (R.left U y e) (R.room U e t);grind)
theorem EX (hI:R.Iv N U) (ht:t<N):R.step U t=(R.wt U t).foldl (fun U p=>R.use U p.1 p.2 t) U:=by
 have gen:∀(L:List (Nat×Nat)) (V:List Ur),L.Nodup→(∀p∈L,R.left V p.1 p.2=R.left U p.1 p.2)→(L.filter (R.may t)).foldl (fun U p=>R.use U p.1 p.2 t) V=(L.filter fun p=>R.may t p&&decide (0<R.left U p.1 p.2)).foldl (fun U p=>R.use U p.1 p.2 t) V:=by
  intro L
  induction L with
  | nil=>intro V _ _;rfl
  | cons p L ih=>
   intro V hn hV
   obtain⟨hp,hn⟩:=List.nodup_cons.1 hn
   have hVp:=hV p (List.mem_cons_self ..)
   cases hm:R.may t p
   ·rw[List.filter_cons_of_neg (by simp[hm]),List.filter_cons_of_neg (by simp[hm])]
    exact ih V hn fun q hq=>hV q (List.mem_cons_of_mem _ hq)
   rw[List.filter_cons_of_pos hm]
   by_cases h0:0<R.left U p.1 p.2
   ·rw[List.filter_cons_of_pos (by simp[hm,h0]),List.foldl_cons,List.foldl_cons]
    refine ih _ hn fun q hq=>?_
    rw[wN (fun h9=>hp (by rw[show p=q from Prod.ext h9.1 h9.2];exact hq))]
    exact hV q (List.mem_cons_of_mem _ hq)
   rw[List.filter_cons_of_neg (by simp[hm,h0]),List.foldl_cons,BH (by rw[hVp];grind)]
   exact ih V hn fun q hq=>hV q (List.mem_cons_of_mem _ hq)
 exact gen _ U (nA t) fun _ _=>rfl
theorem oW {p:Nat×Nat}:∀(L:List (Nat×Nat)) (V:List Ur),p∉L→R.left (L.foldl (fun U p=>R.use U p.1 p.2 t) V) p.1 p.2=R.left V p.1 p.2
 | [],_,_=>rfl
 | q::L,V,h=>by
  rw[List.foldl_cons,oW L _ fun h9=>h (List.mem_cons_of_mem _ h9)]
  exact wN fun h9=>h (by rw[show p=q from(Prod.ext h9.1 h9.2).symm];exact List.mem_cons_self ..)
end
def fl (q:Rat):Int:=q.floor
section
variable {f:Nat→Rat}{x y z:Nat}
end
section
variable {f:Nat→Rat}{n i s t:Nat}
variable {b:Int}
end
section
variable {l:List Rat}{i k t:Nat}
end
section
variable {l:List Rat}{i k:Nat}
end
section
variable {l l':List Nat}{i j:Nat}
end
section
variable {x:Cx}{g:Nat→FV}{ob ob':List (Option Ob)}{cs:List Co}{ts:Array Value}{W:World}{T:List (Nat×TI)}{Q:Post}{ops:Array Oper}{rest:List Oper}{d:Nat}{ty:TypeId}{pos:String}{af:Array Edge}{gd:Option (Nat×Bool)}
end
theorem iT {fresh:Bool}{x:Cx}{T:List (Nat×TI)}{rv:List ResultVar}{e:Exit}{g:Nat→FV}{ob:List (Option Ob)}{b b':Bool}(he:e=.ret∨e=.normal) (res:rL T x.n g ob rv=some [.one (tv (.bool b))]) (hb:b=b'):tY x T rv fresh [] (aP (.one (tv (.bool b')))) e g ob:=en he res (aZ (cR _)) (by decide) (fun _=>trivial) (by rw[hb];rfl)
theorem Eb {b b':Bool}(h:b=b'):some (FV.one (tv (.bool b)))=some (FV.one (tv (.bool b'))):=by rw[h]
theorem Fw {f:Nat→Bool}{k:Nat}{b:Bool}(h:∀j,j<k→f j=b) (h2:f k=b):∀j,j<k+1→f j=b:=fun j hj=>by
 rcases Nat.lt_succ_iff_lt_or_eq.1 hj with h9 | h9
 ·exact h j h9
 rw[h9];exact h2
theorem f0 {f:Nat→Bool}{b:Bool}:∀j,j<0→f j=b:=fun j hj=>absurd hj (Nat.not_lt_zero j)
theorem Gy {k:IntKind}{a b:Int}(h:a=b):some (FV.one (tv (.int k a)))=some (FV.one (tv (.int k b))):=by rw[h]
section
variable {x:Cx}{g g':Nat→FV}{ob ob':List (Option Ob)}{cs cs':List Co}{ts ts':Array Value}{W W' W1:World}{Q:Post}{ops:Array Oper}{late:Nat→Bool}{K fr fr':List Nat}{on:Bool}{fuel:Nat}{listed listed':Array Bool}
end
section
variable {x:Cx}{g:Nat→FV}{ob ob':List (Option Ob)}{Q:Post}{ops:Array Oper}{rest:List Oper}{d:Nat}{op:Op}{ty:TypeId}{pos:String}{af:Array Edge}{gd:Option (Nat×Bool)}{C:Prop}{v:FV}{T:List (Nat×TI)}
end
def fd (n v:Nat):List Nat:=(List.range n).map fun i=>v/10^i%10
section
variable {xs:List Nat}
end
theorem Wl {xs:List Nat}(hx:xs.length≤4398046511104):aD false Tryz.prog 150 [] [.one (.t (sI false xs))] (aP (.one (.t (sI false (trim xs))))):=by
 refine cC Tryz.func150 rfl Tryz.ntmps150 rfl aA rfl fun N w c0 h0=>?_
 refine sq ?_;refine rl ?_;refine o1 ?_;refine nl ?_;refine sq ?_;refine bl ?_
 refine lp (γ:=List Nat) (fun zs=>cA [(0,.one (.t (sI false zs)))]) (fun _=>([]:List Ob).map some) (fun zs=>trim zs=trim xs∧zs.length≤xs.length) (fun zs=>zs.length) xs ⟨rfl,Nat.le_refl _⟩ (aN h0 [] _ _ (by decide) ⟨rfl,trivial⟩ rfl) fun zs hz=>?_
 refine sq ?_;refine sq ?_;refine rl ?_;(iterate 4 refine o1 ?_);refine WL.split (t:=6) rfl (fun h1=>?_) (fun h1=>?_)
 ·(iterate 4 refine o1 ?_);refine WL.cast (t:=10) (u':=.int .i64 ((zs.length-1:Nat):Int)) rfl (aC (by omega)) ?_
  refine o1 ?_;refine dU ([.v (.int .i64 ((nth zs (zs.length-1):Nat):Int))]) (fG zs (k:=zs.length-1) (by omega)) ?_
  refine o1 ?_;refine o1 ?_;refine nl ?_;refine bM rfl (fun h2=>?_) (fun h2=>?_)
  ·refine sk ?_;refine bl ?_;refine rl ?_;(iterate 4 refine o1 ?_);refine WL.cast (t:=18) (u':=.int .i64 ((zs.length-1:Nat):Int)) rfl (aC (by omega)) ?_
   refine o1 ?_;refine o1 ?_;refine nl ?_
   exact⟨zs.take (zs.length-1),by rw[List.length_take];omega,⟨(by rw[uZ (xs:=zs) (k:=zs.length) (by omega) (Nat.le_refl _) (by omega),List.take_length];exact hz.1),by rw[List.length_take];omega⟩,aN h0 [] _ _ (by decide) ⟨congrArg some (Ru (by omega)).symm,trivial⟩ rfl⟩
  refine ex ?_;refine sq ?_;refine rl ?_;refine o1 ?_;refine o1 ?_;refine nl ?_;refine rt ?_;refine en (.inl rfl) rfl (aZ (.one (.id rfl))) (by decide) (fun h=>by cases h) ?_
  have hx:trim xs=zs:=by
   rw[←hz.1];have h9:=qP (xs:=zs) (k:=zs.length) (by omega) (Nat.le_refl _) (by omega)
   rwa[List.take_length]at h9
  rw[hx];rfl
 (iterate 7 refine cM ?_);refine o1 ?_;refine nl ?_;refine eN rfl ?_;refine ex ?_;refine sq ?_;refine rl ?_;refine o1 ?_;refine o1 ?_;refine nl ?_;refine rt ?_
 refine en (.inl rfl) rfl (aZ (.one (.id rfl))) (by decide) (fun h=>by cases h) ?_
 have hx:trim xs=zs:=by
  have h9:zs=[]:=List.eq_nil_of_length_eq_zero (by omega)
  rw[←hz.1,h9];rfl
 rw[hx];rfl
theorem kE {xs:List Nat}(hx:xs.length≤1099511627776) (hl:Lim 4294967296 xs):aD false Tryz.prog 134 [] [.one (.t (sU false xs))] (aP (.one (.t (sI false (dg 65536 (vl 4294967296 xs)))))):=by
 refine cC Tryz.func134 rfl Tryz.ntmps134 rfl aA rfl fun N w c0 h0=>?_
 refine sq ?_;refine rl ?_;refine o1 ?_;refine nl ?_;refine sq ?_;refine rl ?_;refine o1 ?_;refine nl ?_;refine sq ?_;refine sq ?_;refine rl ?_;refine o1 ?_;refine nl ?_;refine bl ?_
 refine lp (γ:=Nat) (fun k=>cA [(0,.one (.t (sU false xs))),(3,.one (.sl 0 0 (2*k))),(4,.one (tv (.int .i64 ((k:Nat):Int))))]) (fun k=>[(⟨3,1,(eD (hv (xs.take k))).map .t⟩:Ob)].map some) (fun k=>k≤xs.length) (fun k=>xs.length-k) 0 (Nat.zero_le _) ((nr (i:=3) 0 3 1 rfl rfl rfl rfl).trans (aN h0 [0] _ _ (by decide) ⟨rfl,rfl,rfl,trivial⟩ ⟨aI (l:=[]) rfl,rfl⟩)) fun k hk=>?_
 have hn:=hl.nth (by omega) k
 refine sq ?_;refine sq ?_;refine rl ?_;(iterate 4 refine o1 ?_);refine nl ?_;refine bM rfl (fun h1=>?_) (fun h1=>?_)
 ·refine sk ?_;refine sq ?_;refine bl ?_;refine rd [] (fun i=>[15].contains i) mixed ?_
  refine dv 0 ?_;refine dv 1 ?_;refine dv 2 ?_;refine dv 3 ?_;refine gI 4 ([.v (.int .u32 ((nth xs (k):Nat):Int))]) (pO xs (k:=k) (by omega)) ?_
  refine dv 5 ?_;refine WD.cast (t:=16) (u':=.int .u32 ((nth xs k%65536:Nat):Int)) rfl (aC (kG _ 65536)) ?_;refine dv 6 ?_;refine dv 7 ?_;refine dv 8 ?_;refine dv 9 ?_
  refine gI 10 ([.v (.int .u32 ((nth xs (k):Nat):Int))]) (pO xs (k:=k) (by omega)) ?_
  refine dv 11 ?_ (hC:=(gW 65536 (by omega) (by simp only[iE];omega)))
  refine WD.cast (t:=22) (u':=.int .u32 ((nth xs k/65536:Nat):Int)) rfl (aC (fP _ 65536)) ?_;refine dv 12 ?_;refine kN (key:=1) 13 (by kernel_rfl) rfl rfl aA rfl trivial ?_
  refine BL (j:=2) 14 rfl aA rfl rfl rfl (.sl rfl (by rw[List.length_map,gZ,pP,List.length_take];omega)) (.sl rfl rfl rfl) rfl rfl (by omega) (by omega) rfl rfl (by kernel_rfl) rfl ?_
  refine eR 15 (by kernel_rfl) rfl rfl aA rfl (by trivial) ?_ (fun h=>by first | rfl | cases h)
  refine aS ?_;refine rl ?_;(iterate 3 refine o1 ?_);refine nl ?_
  exact⟨k+1,by omega,by omega,aN h0 [2] _ _ (by decide) ⟨rfl,rfl,rfl,trivial⟩ ⟨lU rfl (hG _ [nth xs k%65536,nth xs k/65536]) (Lr (by omega)).symm,rfl⟩⟩
 refine ex ?_;refine sq ?_;refine rl ?_;refine WL.sub (xZ (i:=3) (zs':=hv xs) rfl rfl rfl (by rw[pP,List.length_take];omega) (by rw[List.take_of_length_le (by omega)])) ?_
 refine o1 ?_;refine ca (Wl (by rw[pP];omega)) CQ ⟨a1 rfl,rfl⟩ (.one (.t (sI false (trim (hv xs))))) ?_
 refine o1 ?_;refine nl ?_;refine rt ?_;exact en (.inl rfl) rfl (aZ (.one (.id rfl))) (by decide) (fun h=>by cases h) (by rw[BM hl];rfl)
theorem zM {xs:List Nat}(hx:xs.length≤4398046511104) (hl:Lim 65536 xs):aD true Tryz.prog 136 [] [.one (.t (sI false xs))] (aP (.one (.t (sU true (dg 4294967296 (vl 65536 xs)))))):=by
 refine cC Tryz.func136 rfl Tryz.ntmps136 rfl aA rfl fun N w c0 h0=>?_
 refine sq ?_;refine rl ?_;refine o1 ?_;refine nl ?_;refine sq ?_;refine rl ?_;refine o1 ?_;refine nl ?_;refine sq ?_;refine rl ?_;refine o1 ?_
 refine ca (Wl hx) CQ ⟨a1 rfl,rfl⟩ (.one (.t (sI false (trim xs)))) ?_;refine o1 ?_;refine nl ?_;refine sq ?_;refine sq ?_;have htl:=cV xs
 have hlt:=hl.trim
 generalize hY:trim xs=ys at htl hlt;refine rl ?_;refine o1 ?_;refine nl ?_;refine bl ?_
 refine lp (γ:=Nat) (fun k=>cA [(0,.one (.t (sI false ys))),(3,.one (.sl 0 0 k)),(4,.one (tv (.int .i64 ((2*k:Nat):Int))))]) (fun k=>[(⟨113,1,(aY (lb (ys.take (2*k)))).map .t⟩:Ob)].map some) (fun k=>2*k≤ys.length+1) (fun k=>ys.length+1-2*k) 0 (Nat.zero_le _) ((nr (i:=3) 0 113 1 rfl rfl rfl rfl).trans (aN h0 [0] _ _ (by decide) ⟨rfl,rfl,rfl,trivial⟩ ⟨aI (l:=[]) rfl,rfl⟩)) fun k hk=>?_
 have hn:=hlt.nth (by omega) (2*k)
 have hn2:=hlt.nth (by omega) (2*k+1)
 refine sq ?_;refine sq ?_;refine rl ?_;(iterate 4 refine o1 ?_);refine nl ?_;refine bM rfl (fun h1=>?_) (fun h1=>?_)
 ·refine sk ?_;refine sq ?_;refine bl ?_;refine sq ?_;refine rl ?_;refine o1 ?_;refine nl ?_;refine sq ?_;refine sq ?_;refine rl ?_;refine o1 ?_;refine o1 ?_
  refine WL.cast (t:=15) (u':=.int .i64 ((2*k+1:Nat):Int)) rfl (aC (by omega)) ?_
  (iterate 3 refine o1 ?_);refine nl ?_;refine bM rfl (fun h2=>?_) (fun h2=>?_)
  ·refine rl ?_;(iterate 3 refine o1 ?_);refine WL.cast (t:=21) (u':=.int .i64 ((2*k+1:Nat):Int)) rfl (aC (by omega)) ?_
   refine o1 ?_;refine dU ([.v (.int .i64 ((nth ys (2*k+1):Nat):Int))]) (fG ys (k:=2*k+1) (by omega)) ?_
   refine o1 ?_;refine nl ?_;refine rl ?_;(iterate 4 refine o1 ?_);refine dU ([.v (.int .i64 ((nth ys (2*k):Nat):Int))]) (fG ys (k:=2*k) (by omega)) ?_
   (iterate 5 refine o1 ?_);refine WL.cast (t:=33) (u':=.int .u32 ((nth ys (2*k)+65536*nth ys (2*k+1):Nat):Int)) rfl (aC (by omega)) ?_
   refine bs 1 ?_;refine jE (j:=2) aA rfl rfl rfl rfl (.sl rfl (by rw[List.length_map,hH,iK,List.length_take];omega)) (.sl rfl rfl rfl) rfl rfl rfl (by omega) (by omega) ?_
   refine o1 ?_;refine nl ?_;refine rl ?_;(iterate 3 refine o1 ?_);refine nl ?_
   exact⟨k+1,by omega,by omega,aN h0 [2] _ _ (by decide) ⟨rfl,rfl,rfl,trivial⟩ ⟨Rw rfl (Kg _ [nth ys (2*k)+65536*nth ys (2*k+1)]) (xW (by omega)).symm,rfl⟩⟩
  have hz:=eK (l:=ys) (k:=2*k+1) (by omega)
  refine sk ?_;refine rl ?_;(iterate 4 refine o1 ?_);refine dU ([.v (.int .i64 ((nth ys (2*k):Nat):Int))]) (fG ys (k:=2*k) (by omega)) ?_
  (iterate 5 refine o1 ?_);refine WL.cast (t:=33) (u':=.int .u32 ((nth ys (2*k)+65536*nth ys (2*k+1):Nat):Int)) rfl (aC (by omega)) ?_
  refine bs 1 ?_;refine jE (j:=2) aA rfl rfl rfl rfl (.sl rfl (by rw[List.length_map,hH,iK,List.length_take];omega)) (.sl rfl rfl rfl) rfl rfl rfl (by omega) (by omega) ?_
  refine o1 ?_;refine nl ?_;refine rl ?_;(iterate 3 refine o1 ?_);refine nl ?_
  exact⟨k+1,by omega,by omega,aN h0 [2] _ _ (by decide) ⟨rfl,rfl,rfl,trivial⟩ ⟨Rw rfl (Kg _ [nth ys (2*k)+65536*nth ys (2*k+1)]) (xW (by omega)).symm,rfl⟩⟩
 refine ex ?_;refine sq ?_;refine rl ?_;refine o1 ?_;refine o1 ?_;refine nl ?_;refine rt ?_
 exact en (.inl rfl) rfl (aZ (.one (.sl (trs:=aY (lb ys)) rfl rfl (by rw[List.take_of_length_le (l:=ys) (by omega),List.take_of_length_le (by simp[hH,iK];omega)]) (by rw[hH,iK];omega)))) (by decide) (fun _=>.inl ⟨rfl,eV _⟩) (by rw[←zY,eZ (by omega) hl,hY];unfold sU;rw[show k=(lb ys).length by rw[iK];omega];rfl)
theorem oZ {xs:List Nat}{k:Nat}:aD true Tryz.prog 135 [] [.one (.t (sI false xs)),.one (tv (.int .i64 ((k:Nat):Int)))] (aP (.one (tv (.int .i64 ((nth xs k:Nat):Int))))):=by
 refine cC Tryz.func135 rfl Tryz.ntmps135 rfl aA rfl fun N w c0 h0=>?_
 refine sq ?_;refine rl ?_;refine o1 ?_;refine nl ?_;refine sq ?_;refine sq ?_;refine rl ?_;(iterate 4 refine o1 ?_);refine nl ?_;refine bM rfl (fun h1=>?_) (fun h1=>?_)
 ·refine sq ?_;refine rl ?_;(iterate 3 refine o1 ?_);refine dU ([.v (.int .i64 ((nth xs (k):Nat):Int))]) (fG xs (k:=k) (by omega)) ?_
  refine o1 ?_;refine nl ?_;refine rt ?_;refine en (.inl rfl) rfl (aZ (cR _)) (by decide) (fun _=>trivial) ?_
  rfl
 refine sk ?_;refine sq ?_;refine rl ?_;refine o1 ?_;refine nl ?_;refine rt ?_;refine en (.inl rfl) rfl (aZ (cR _)) (by decide) (fun _=>trivial) ?_
 rw[eK (by omega)];rfl
theorem HZ {xs:List Nat}(hx:xs.length≤1099511627776) (hlx:Lim 4294967296 xs):aD true Tryz.prog 132 [] [.one (.t (sU false xs))] (aP (.one (.t (sU true (dg 4294967296 (vl 4294967296 xs)))))):=by
 refine cC Tryz.func132 rfl Tryz.ntmps132 rfl aA rfl fun N w c0 h0=>?_
 have hd:=fB (v:=vl 4294967296 xs) (L:=xs.length) (by rw[eZ (by omega) hlx];exact cV _)
 have hl9:=aM (B:=65536) (by omega) (vl 4294967296 xs)
 refine sq ?_;refine rl ?_;refine o1 ?_;refine nl ?_;refine sq ?_;refine rl ?_;refine o1 ?_
 refine ca (kE hx hlx) uC ⟨a1 rfl,rfl⟩ (.one (.t (sI false (dg 65536 (vl 4294967296 xs))))) ?_;refine iY 0 (zM (by omega) (by assumption)) Ql ⟨a1 rfl,rfl⟩ ?_
 refine o1 ?_;refine nl ?_;refine rt ?_
 exact en (.inl rfl) rfl (aZ (.one (.sl (trs:=aY (dg 4294967296 (vl 65536 (dg 65536 (vl 4294967296 xs))))) rfl rfl (bV _) (bR _)))) (by decide) (fun _=>.inl ⟨rfl,eV _⟩) (by rw[cE (by omega)];rfl)
theorem Kw {xs ys:List Nat}(hx:xs.length≤1099511627776) (hlx:Lim 4294967296 xs) (hy:ys.length≤1099511627776) (hly:Lim 4294967296 ys):aD true Tryz.prog 137 [] [.one (.t (sU false xs)),.one (.t (sU false ys))] (aP (.one (tv (.int .i64 (((vl 4294967296 xs:Nat):Int)-((vl 4294967296 ys:Nat):Int)).sign)))):=by
 refine cC Tryz.func137 rfl Tryz.ntmps137 rfl aA rfl fun N w c0 h0=>?_
 refine sq ?_;refine rl ?_;refine o1 ?_;refine nl ?_;refine sq ?_;refine rl ?_;refine o1 ?_
 refine ca (kE hx hlx) uC ⟨a1 rfl,rfl⟩ (.one (.t (sI false (dg 65536 (vl 4294967296 xs))))) ?_;refine o1 ?_
 refine ca (kE hy hly) uC ⟨a1 rfl,rfl⟩ (.one (.t (sI false (dg 65536 (vl 4294967296 ys))))) ?_;refine o1 ?_;refine o1 ?_;refine nl ?_;refine sq ?_;refine sq ?_
 have hdx:=fB (v:=vl 4294967296 xs) (L:=xs.length) (by rw[eZ (by omega) hlx];exact cV _)
 have hdy:=fB (v:=vl 4294967296 ys) (L:=ys.length) (by rw[eZ (by omega) hly];exact cV _)
 have hX:=aM (B:=65536) (by omega) (vl 4294967296 xs)
 have hY:=aM (B:=65536) (by omega) (vl 4294967296 ys)
 have hvX:=cE (B:=65536) (by omega) (vl 4294967296 xs)
 have hvY:=cE (B:=65536) (by omega) (vl 4294967296 ys)
 generalize dg 65536 (vl 4294967296 xs)=X at hdx hX hvX⊢;generalize dg 65536 (vl 4294967296 ys)=Y at hdy hY hvY⊢;refine rl ?_;(iterate 5 refine o1 ?_)
 refine WL.cast (t:=16) (u':=.int .i64 ((max X.length Y.length:Nat):Int)) rfl (aC (by omega)) ?_
 refine o1 ?_;refine o1 ?_;refine nl ?_;refine bl ?_
 refine lp (γ:=Nat) (fun k=>cA [(5,.one (.t (sI false X))),(6,.one (.t (sI false Y))),(7,.one (tv (.int .i64 ((k:Nat)-1))))]) (fun k=>([]:List Ob).map some) (fun k=>(∀j,k≤j→nth X j=nth Y j)∧k≤max X.length Y.length) (fun k=>k) (max X.length Y.length) ⟨fun j hj=>by rw[eK (by omega),eK (by omega)],Nat.le_refl _⟩ (aN h0 [] _ _ (by decide) ⟨rfl,rfl,rfl,trivial⟩ rfl) fun k hk=>?_
 refine sq ?_;refine sq ?_;refine rl ?_;refine o1 ?_;refine o1 ?_;refine nl ?_;refine bM rfl (fun h1=>?_) (fun h1=>?_)
 ·refine sk ?_;refine sq ?_;refine bl ?_;refine sq ?_;refine sq ?_;refine rl ?_;refine o1 ?_;refine o1 ?_
  refine WL.cast (t:=23) (u':=.int .i64 ((k-1:Nat):Int)) rfl (aC (by omega)) ?_
  refine ca (oZ) oY ⟨a1 rfl,a1 rfl,rfl⟩ (.one (tv (.int .i64 ((nth X (k-1):Nat):Int)))) ?_;refine o1 ?_;refine o1 ?_
  refine WL.cast (t:=26) (u':=.int .i64 ((k-1:Nat):Int)) rfl (aC (by omega)) ?_
  refine ca (oZ) oY ⟨a1 rfl,a1 rfl,rfl⟩ (.one (tv (.int .i64 ((nth Y (k-1):Nat):Int)))) ?_;refine o1 ?_;refine nl ?_;refine bM rfl (fun h2=>?_) (fun h2=>?_)
  ·refine sq ?_;refine rl ?_;refine o1 ?_;refine nl ?_;refine rt ?_;refine en (.inl rfl) rfl (aZ (cR _)) (by decide) (fun _=>trivial) (congrArg (fun z=>FV.one (tv (.int .i64 z))) ?_)
   have he:=Gd (X:=X) (Y:=Y) (k:=k-1) hX (fun j hj=>hk.1 j (by omega)) (by omega)
   rw[hvX,hvY]at he;rw[Int.sign_eq_neg_one_of_neg (by omega)]
  refine sk ?_;refine sq ?_;refine rl ?_;refine o1 ?_;refine o1 ?_;refine WL.cast (t:=30) (u':=.int .i64 ((k-1:Nat):Int)) rfl (aC (by omega)) ?_
  refine ca (oZ) oY ⟨a1 rfl,a1 rfl,rfl⟩ (.one (tv (.int .i64 ((nth X (k-1):Nat):Int)))) ?_;refine o1 ?_;refine o1 ?_
  refine WL.cast (t:=33) (u':=.int .i64 ((k-1:Nat):Int)) rfl (aC (by omega)) ?_
  refine ca (oZ) oY ⟨a1 rfl,a1 rfl,rfl⟩ (.one (tv (.int .i64 ((nth Y (k-1):Nat):Int)))) ?_;refine o1 ?_;refine nl ?_;refine bM rfl (fun h3=>?_) (fun h3=>?_)
  ·refine sq ?_;refine rl ?_;refine o1 ?_;refine nl ?_;refine rt ?_;refine en (.inl rfl) rfl (aZ (cR _)) (by decide) (fun _=>trivial) (congrArg (fun z=>FV.one (tv (.int .i64 z))) ?_)
   have he:=Gd (X:=Y) (Y:=X) (k:=k-1) hY (fun j hj=>(hk.1 j (by omega)).symm) (by omega)
   rw[hvX,hvY]at he;rw[Int.sign_eq_one_of_pos (by omega)]
  refine sk ?_;refine rl ?_;(iterate 3 refine o1 ?_);refine nl ?_
  exact⟨k-1,by omega,⟨fun j hj=>(Nat.eq_or_lt_of_le hj).elim (fun h9=>by rw[←h9];omega) (fun h9=>hk.1 j (by omega)),by omega⟩,aN h0 [] _ _ (by decide) ⟨rfl,rfl,congrArg (fun z=>some (FV.one (tv (.int .i64 z)))) (by omega),trivial⟩ rfl⟩
 refine ex ?_;refine sq ?_;refine rl ?_;refine o1 ?_;refine nl ?_;refine rt ?_
 refine en (.inl rfl) rfl (aZ (cR _)) (by decide) (fun _=>trivial) (congrArg (fun z=>FV.one (tv (.int .i64 z))) ?_)
 have he:=Ry (fun j=>hk.1 j (by omega))
 rw[hvX,hvY]at he;rw[he,Int.sub_self];rfl
theorem OF {xs ys:List Nat}(hx:xs.length≤1099511627776) (hlx:Lim 4294967296 xs) (hy:ys.length≤1099511627776) (hly:Lim 4294967296 ys):aD true Tryz.prog 111 [] [.one (.t (sU false xs)),.one (.t (sU false ys))] (aP (.one (.t (sU true (dg 4294967296 (vl 4294967296 xs+vl 4294967296 ys)))))):=by
 refine cC Tryz.func111 rfl Tryz.ntmps111 rfl aA rfl fun N w c0 h0=>?_
 refine sq ?_;refine rl ?_;refine o1 ?_;refine nl ?_;refine sq ?_;refine rl ?_;refine o1 ?_
 refine ca (kE hx hlx) uC ⟨a1 rfl,rfl⟩ (.one (.t (sI false (dg 65536 (vl 4294967296 xs))))) ?_;refine o1 ?_
 refine ca (kE hy hly) uC ⟨a1 rfl,rfl⟩ (.one (.t (sI false (dg 65536 (vl 4294967296 ys))))) ?_;refine o1 ?_;refine o1 ?_;refine nl ?_;refine sq ?_
 have hdx:=fB (v:=vl 4294967296 xs) (L:=xs.length) (by rw[eZ (by omega) hlx];exact cV _)
 have hdy:=fB (v:=vl 4294967296 ys) (L:=ys.length) (by rw[eZ (by omega) hly];exact cV _)
 have hX:=aM (B:=65536) (by omega) (vl 4294967296 xs)
 have hY:=aM (B:=65536) (by omega) (vl 4294967296 ys)
 have hvX:=cE (B:=65536) (by omega) (vl 4294967296 xs)
 have hvY:=cE (B:=65536) (by omega) (vl 4294967296 ys)
 generalize dg 65536 (vl 4294967296 xs)=X at hdx hX hvX⊢;generalize dg 65536 (vl 4294967296 ys)=Y at hdy hY hvY⊢;refine rl ?_;refine o1 ?_;refine nl ?_;refine sq ?_;refine rl ?_
 refine o1 ?_;refine nl ?_;refine sq ?_;refine sq ?_;refine rl ?_;refine o1 ?_;refine nl ?_;refine bl ?_
 refine lp (γ:=Nat×Nat×List Nat) (fun s=>cA [(5,.one (.t (sI false X))),(6,.one (.t (sI false Y))),(7,.one (.sl 0 0 s.1)),(8,.one (tv (.int .i64 ((s.2.1:Nat):Int)))),(9,.one (tv (.int .i64 ((s.1:Nat):Int))))]) (fun s=>[(⟨3,1,(eD s.2.2).map .t⟩:Ob)].map some) (fun s=>s.2.2.length=s.1∧Lim 65536 s.2.2∧vl 65536 s.2.2+65536^s.1*s.2.1=vl 65536 (X.take s.1)+vl 65536 (Y.take s.1)∧s.2.1≤1∧(s.1≤max X.length Y.length∨s.1=max X.length Y.length+1∧s.2.1=0)) (fun s=>max X.length Y.length+1-s.1) (0,0,[]) ⟨rfl,Lim.nil,rfl,Nat.zero_le _,.inl (Nat.zero_le _)⟩ ((nr (i:=7) 0 3 1 rfl rfl rfl rfl).trans (aN h0 [0] _ _ (by decide) ⟨rfl,rfl,rfl,rfl,rfl,trivial⟩ ⟨aI (l:=[]) rfl,rfl⟩)) ?_
 rintro⟨k,cr,os⟩ ⟨hos,hol,hv,hc1,hkm⟩;dsimp only at hos hol hv hc1 hkm⊢;have hn1:=hX.nth (by omega) k
 have hn2:=hY.nth (by omega) k
 refine sq ?_;refine sq ?_;refine rl ?_;(iterate 6 refine o1 ?_);refine WL.cast (t:=20) (u':=.int .i64 ((max X.length Y.length:Nat):Int)) rfl (aC (by omega)) ?_
 refine o1 ?_;refine o1 ?_;refine WL.split (t:=22) rfl (fun h1=>?_) (fun h1=>?_)
 ·refine cM ?_;refine cM ?_;refine o1 ?_;refine nl ?_;refine gJ rfl ?_;refine sk ?_;refine sq ?_;refine bl ?_;refine sq ?_;refine rl ?_;refine o1 ?_;refine o1 ?_
  refine ca (oZ) oY ⟨a1 rfl,a1 rfl,rfl⟩ (.one (tv (.int .i64 ((nth X (k):Nat):Int)))) ?_;refine o1 ?_;refine o1 ?_
  refine ca (oZ) oY ⟨a1 rfl,a1 rfl,rfl⟩ (.one (tv (.int .i64 ((nth Y (k):Nat):Int)))) ?_;(iterate 3 refine o1 ?_)
  refine WL.cast (t:=36) (u':=.int .i64 ((nth X k+nth Y k+cr:Nat):Int)) rfl (aC (by omega)) ?_
  refine o1 ?_;refine nl ?_;refine sq ?_;refine rl ?_;(iterate 3 refine o1 ?_)
  refine WL.cast (t:=39) (u':=.int .i64 (((nth X k+nth Y k+cr)%65536:Nat):Int)) rfl (aC (kG _ 65536)) ?_;refine bs 1 ?_
  refine jE (j:=2) aA rfl rfl rfl rfl (.sl rfl (by rw[List.length_map,gZ,hos];omega)) (.sl rfl rfl rfl) rfl rfl rfl (by omega) (by omega) ?_
  refine o1 ?_;refine nl ?_;refine rl ?_;refine o1 ?_;refine o1 ?_ (hC:=(gW 65536 (by omega) (by simp only[iE];omega)))
  refine WL.cast (t:=43) (u':=.int .i64 (((nth X k+nth Y k+cr)/65536:Nat):Int)) rfl (aC (fP _ 65536)) ?_;refine o1 ?_;refine nl ?_;refine rl ?_;(iterate 3 refine o1 ?_)
  refine nl ?_;have hst:=Ke hos hv
  have hz1:X.length≤k→nth X k=0:=fun h=>eK (by omega)
  have hz2:Y.length≤k→nth Y k=0:=fun h=>eK (by omega)
  exact⟨(k+1,(nth X k+nth Y k+cr)/65536,os++[(nth X k+nth Y k+cr)%65536]),by dsimp only;omega,⟨by simp[hos],hol.append (Lim.cons (Nat.mod_lt _ (by omega)) Lim.nil),hst,by dsimp only;omega,by dsimp only;omega⟩,aN h0 [2] _ _ (by decide) ⟨rfl,rfl,rfl,rfl,rfl,trivial⟩ ⟨lU rfl (hG _ [(nth X k+nth Y k+cr)%65536]) rfl,rfl⟩⟩
 (iterate 3 refine o1 ?_);refine nl ?_;refine bM rfl (fun h2=>?_) (fun h2=>?_)
 ·refine sk ?_;refine sq ?_;refine bl ?_;refine sq ?_;refine rl ?_;refine o1 ?_;refine o1 ?_
  refine ca (oZ) oY ⟨a1 rfl,a1 rfl,rfl⟩ (.one (tv (.int .i64 ((nth X (k):Nat):Int)))) ?_;refine o1 ?_;refine o1 ?_
  refine ca (oZ) oY ⟨a1 rfl,a1 rfl,rfl⟩ (.one (tv (.int .i64 ((nth Y (k):Nat):Int)))) ?_;(iterate 3 refine o1 ?_)
  refine WL.cast (t:=36) (u':=.int .i64 ((nth X k+nth Y k+cr:Nat):Int)) rfl (aC (by omega)) ?_
  refine o1 ?_;refine nl ?_;refine sq ?_;refine rl ?_;(iterate 3 refine o1 ?_)
  refine WL.cast (t:=39) (u':=.int .i64 (((nth X k+nth Y k+cr)%65536:Nat):Int)) rfl (aC (kG _ 65536)) ?_;refine bs 1 ?_
  refine jE (j:=2) aA rfl rfl rfl rfl (.sl rfl (by rw[List.length_map,gZ,hos];omega)) (.sl rfl rfl rfl) rfl rfl rfl (by omega) (by omega) ?_
  refine o1 ?_;refine nl ?_;refine rl ?_;refine o1 ?_;refine o1 ?_ (hC:=(gW 65536 (by omega) (by simp only[iE];omega)))
  refine WL.cast (t:=43) (u':=.int .i64 (((nth X k+nth Y k+cr)/65536:Nat):Int)) rfl (aC (fP _ 65536)) ?_;refine o1 ?_;refine nl ?_;refine rl ?_;(iterate 3 refine o1 ?_)
  refine nl ?_;have hst:=Ke hos hv
  have hz1:X.length≤k→nth X k=0:=fun h=>eK (by omega)
  have hz2:Y.length≤k→nth Y k=0:=fun h=>eK (by omega)
  exact⟨(k+1,(nth X k+nth Y k+cr)/65536,os++[(nth X k+nth Y k+cr)%65536]),by dsimp only;omega,⟨by simp[hos],hol.append (Lim.cons (Nat.mod_lt _ (by omega)) Lim.nil),hst,by dsimp only;omega,by dsimp only;omega⟩,aN h0 [2] _ _ (by decide) ⟨rfl,rfl,rfl,rfl,rfl,trivial⟩ ⟨lU rfl (hG _ [(nth X k+nth Y k+cr)%65536]) rfl,rfl⟩⟩
 refine ex ?_;refine sq ?_;refine rl ?_;have hc0:cr=0:=by omega
 rw[hc0,Nat.mul_zero,Nat.add_zero,bP 65536 (by omega),bP 65536 (by omega),hvX,hvY]at hv
 refine WL.sub (xZ (i:=7) (zs':=os) rfl rfl rfl (by omega) rfl) ?_
 refine o1 ?_;refine iY 1 (zM (by omega) (by assumption)) Ql ⟨a1 rfl,rfl⟩ ?_
 refine o1 ?_;refine nl ?_;refine rt ?_
 exact en (.inl rfl) rfl (aZ (.one (.sl (trs:=aY (dg 4294967296 (vl 65536 os))) rfl rfl (bV _) (bR _)))) (by decide) (fun _=>.inl ⟨rfl,eV _⟩) (by rw[hv];rfl)
theorem Wm {xs ys:List Nat}(hx:xs.length≤1099511627776) (hlx:Lim 4294967296 xs) (hy:ys.length≤1099511627776) (hly:Lim 4294967296 ys):aD true Tryz.prog 112 [] [.one (.t (sU false xs)),.one (.t (sU false ys))] (aP (.tup [.one (.t (sU true (dg 4294967296 (vl 4294967296 xs-vl 4294967296 ys)))),.one (tv (.int .i64 (if vl 4294967296 xs<vl 4294967296 ys then 2 else 0)))])):=by
 refine cC Tryz.func112 rfl Tryz.ntmps112 rfl aA rfl fun N w c0 h0=>?_
 refine sq ?_;refine rl ?_;refine o1 ?_;refine o1 ?_;refine nl ?_;refine sq ?_;refine sq ?_;refine rl ?_;refine o1 ?_;refine o1 ?_
 refine ca (Kw hx hlx hy hly) Qm ⟨a1 rfl,a1 rfl,rfl⟩ (.one (tv (.int .i64 (((vl 4294967296 xs:Nat):Int)-((vl 4294967296 ys:Nat):Int)).sign))) ?_;refine o1 ?_;refine nl ?_
 refine bM rfl (fun h1=>?_) (fun h1=>?_)
 ·refine sq ?_;refine rl ?_;refine o1 ?_;refine o1 ?_;refine nl ?_;refine rt ?_;have hlt:=NL h1
  exact en (.inl rfl) rfl (uP (.cons (.one (.nil (t:=113) (z:=1))) (.cons (cR _) .nil))) (by decide) (fun _=>⟨.inl ⟨rfl,trivial⟩,trivial,trivial⟩) (by rw[Nat.sub_eq_zero_of_le (Nat.le_of_lt hlt),if_pos hlt];rfl)
 refine sk ?_;refine sq ?_;refine rl ?_;refine o1 ?_;refine ca (kE hx hlx) uC ⟨a1 rfl,rfl⟩ (.one (.t (sI false (dg 65536 (vl 4294967296 xs))))) ?_;refine o1 ?_
 refine ca (kE hy hly) uC ⟨a1 rfl,rfl⟩ (.one (.t (sI false (dg 65536 (vl 4294967296 ys))))) ?_;refine o1 ?_;refine o1 ?_;refine nl ?_;refine sq ?_
 have hge:vl 4294967296 ys≤vl 4294967296 xs:=NK h1
 have hyx:=cY (B:=65536) (by omega) hge
 have hdx:=fB (v:=vl 4294967296 xs) (L:=xs.length) (by rw[eZ (by omega) hlx];exact cV _)
 have hdy:=fB (v:=vl 4294967296 ys) (L:=ys.length) (by rw[eZ (by omega) hly];exact cV _)
 have hX:=aM (B:=65536) (by omega) (vl 4294967296 xs)
 have hY:=aM (B:=65536) (by omega) (vl 4294967296 ys)
 have hvX:=cE (B:=65536) (by omega) (vl 4294967296 xs)
 have hvY:=cE (B:=65536) (by omega) (vl 4294967296 ys)
 generalize dg 65536 (vl 4294967296 xs)=X at hdx hX hvX hyx⊢;generalize dg 65536 (vl 4294967296 ys)=Y at hdy hY hvY hyx⊢;refine rl ?_;refine o1 ?_;refine nl ?_;refine sq ?_;refine rl ?_
 refine o1 ?_;refine nl ?_;refine sq ?_;refine sq ?_;refine rl ?_;refine o1 ?_;refine nl ?_;refine bl ?_
 refine lp (γ:=Nat×Nat×List Nat) (fun s=>cA [(6,.one (.t (sI false X))),(7,.one (.t (sI false Y))),(8,.one (.sl 0 0 s.1)),(9,.one (tv (.int .i64 ((s.2.1:Nat):Int)))),(10,.one (tv (.int .i64 ((s.1:Nat):Int))))]) (fun s=>[(⟨3,1,(eD s.2.2).map .t⟩:Ob)].map some) (fun s=>s.2.2.length=s.1∧Lim 65536 s.2.2∧vl 65536 s.2.2+vl 65536 (Y.take s.1)=vl 65536 (X.take s.1)+65536^s.1*s.2.1∧s.2.1≤1∧s.1≤X.length) (fun s=>X.length-s.1) (0,0,[]) ⟨rfl,Lim.nil,rfl,Nat.zero_le _,Nat.zero_le _⟩ ((nr (i:=8) 0 3 1 rfl rfl rfl rfl).trans (aN h0 [0] _ _ (by decide) ⟨rfl,rfl,rfl,rfl,rfl,trivial⟩ ⟨aI (l:=[]) rfl,rfl⟩)) ?_
 rintro⟨k,br,os⟩ ⟨hos,hol,hv,hc1,hkm⟩;dsimp only at hos hol hv hc1 hkm⊢;have hn1:=hX.nth (by omega) k
 have hn2:=hY.nth (by omega) k
 refine sq ?_;refine sq ?_;refine rl ?_;(iterate 4 refine o1 ?_);refine nl ?_;refine bM rfl (fun h2=>?_) (fun h2=>?_)
 ·refine sk ?_;refine sq ?_;refine bl ?_;refine sq ?_;refine rd [] (fun i=>[10].contains i) mixed ?_
  refine dv 0 ?_;refine dv 1 ?_;refine dv 2 ?_;refine gI 3 ([.v (.int .i64 ((nth X (k):Nat):Int))]) (fG X (k:=k) (by omega)) ?_
  refine dv 4 ?_;refine dv 5 ?_;refine dv 8 ?_;refine bB 6 rfl (oZ) oY ⟨a1 rfl,a1 rfl,rfl⟩ (.one (tv (.int .i64 ((nth Y (k):Nat):Int)))) ?_;refine df 7 ?_;refine df 9 ?_
  refine eR 10 (by kernel_rfl) rfl rfl aA rfl (by trivial) ?_ (fun h=>by first | rfl | cases h)
  refine aS ?_;refine sq ?_;refine rl ?_;refine o1 ?_;refine nl ?_;refine sq ?_;refine sq ?_;refine rl ?_;refine o1 ?_;refine o1 ?_;refine nl ?_
  refine bM rfl (fun h3=>?_) (fun h3=>?_)
  ·refine sq ?_;refine rl ?_;(iterate 3 refine o1 ?_);refine nl ?_;refine rl ?_;refine o1 ?_;refine nl ?_;refine rl ?_
   refine WL.cast (t:=11) (u':=.int .i64 (((nth X k+65536-nth Y k-br:Nat)):Int)) rfl (aC (by omega)) ?_
   refine o1 ?_;refine o1 ?_;refine bs 1 ?_
   refine jE (j:=2) aA rfl rfl rfl rfl (.sl rfl (by rw[List.length_map,gZ,hos];omega)) (.sl rfl rfl rfl) rfl rfl rfl (by omega) (by omega) ?_
   refine o1 ?_;refine nl ?_;refine rl ?_;(iterate 3 refine o1 ?_);refine nl ?_;have hst:=Kf (d:=nth X k+65536-nth Y k-br) (br':=1) hos hv (by omega)
   exact⟨(k+1,1,os++[nth X k+65536-nth Y k-br]),by dsimp only;omega,⟨by simp[hos],hol.append (Lim.cons (by omega) Lim.nil),hst,by dsimp only;omega,by dsimp only;omega⟩,aN h0 [2] _ _ (by decide) ⟨rfl,rfl,rfl,rfl,rfl,trivial⟩ ⟨lU rfl (hG _ [nth X k+65536-nth Y k-br]) rfl,rfl⟩⟩
  refine sk ?_;refine rl ?_;refine WL.cast (t:=11) (u':=.int .i64 (((nth X k-nth Y k-br:Nat)):Int)) rfl (aC (by omega)) ?_
  refine o1 ?_;refine o1 ?_;refine bs 1 ?_
  refine jE (j:=2) aA rfl rfl rfl rfl (.sl rfl (by rw[List.length_map,gZ,hos];omega)) (.sl rfl rfl rfl) rfl rfl rfl (by omega) (by omega) ?_
  refine o1 ?_;refine nl ?_;refine rl ?_;(iterate 3 refine o1 ?_);refine nl ?_;have hst:=Kf (d:=nth X k-nth Y k-br) (br':=0) hos hv (by omega)
  exact⟨(k+1,0,os++[nth X k-nth Y k-br]),by dsimp only;omega,⟨by simp[hos],hol.append (Lim.cons (by omega) Lim.nil),hst,by dsimp only;omega,by dsimp only;omega⟩,aN h0 [2] _ _ (by decide) ⟨rfl,rfl,rfl,rfl,rfl,trivial⟩ ⟨lU rfl (hG _ [nth X k-nth Y k-br]) rfl,rfl⟩⟩
 refine ex ?_;refine sq ?_;refine rl ?_;have hoo:=eW hol
 rw[hos]at hoo;rw[bP 65536 (l:=X) (by omega),bP 65536 (l:=Y) (by omega),hvX,hvY]at hv
 have hb0:br=0:=by
  rcases Nat.eq_zero_or_pos br with h0 | h0
  ·exact h0
  have h1:br=1:=by omega
  rw[h1,Nat.mul_one,show k=X.length by omega]at hv
  rw[show k=X.length by omega]at hoo
  omega
 rw[hb0,Nat.mul_zero,Nat.add_zero]at hv;have he:vl 65536 os=vl 4294967296 xs-vl 4294967296 ys:=by omega
 refine WL.sub (xZ (i:=8) (zs':=os) rfl rfl rfl (by omega) rfl) ?_
 refine o1 ?_;refine iY 1 (zM (by omega) (by assumption)) Ql ⟨a1 rfl,rfl⟩ ?_
 refine o1 ?_;refine o1 ?_;refine nl ?_;refine rt ?_
 exact en (.inl rfl) rfl (uP (.cons (.one (.sl (trs:=aY (dg 4294967296 (vl 65536 os))) rfl rfl (bV _) (bR _))) (.cons (cR _) .nil))) (by decide) (fun _=>⟨.inl ⟨rfl,eV _⟩,trivial,trivial⟩) (by rw[he,if_neg (by omega)];rfl)
theorem BI {a:Zi}{k:Int}(ha:Zn a k):aD true Tryz.prog 90 [] [gF a] (aP (.one (tv (.bool (dI a.s a.x))))):=by
 refine cC Tryz.func90 rfl Tryz.ntmps90 rfl aA rfl fun N w c0 h0=>?_
 have hal:=ha.2.1
 refine sq ?_;refine rl ?_;refine bx 0 ?_;refine o1 ?_;refine nl ?_;refine sq ?_;refine sq ?_;refine rl ?_;refine o1 ?_;refine ld ?_;refine o1 ?_;refine o1 ?_;refine nl ?_
 refine bM rfl (fun h1=>?_) (fun h1=>?_)
 ·refine sq ?_;refine rl ?_;refine o1 ?_;refine ld ?_;refine WL.splitb (t:=8) rfl (fun h2=>?_) (fun h2=>?_)
  ·refine o1 ?_;refine o1 ?_;refine nl ?_;refine rt ?_;refine en (.inl rfl) rfl (aZ (cR _)) (by decide) (fun _=>trivial) (congrArg (fun b=>FV.one (tv (.bool b))) ?_)
   rw[mM (by omega)];simp_all
  refine o1 ?_;refine o1 ?_;refine nl ?_;refine rt ?_;refine en (.inl rfl) rfl (aZ (cR _)) (by decide) (fun _=>trivial) (congrArg (fun b=>FV.one (tv (.bool b))) ?_)
  rw[mM (by omega)];simp_all
 refine sk ?_;refine sq ?_;refine rl ?_;refine o1 ?_;refine ld ?_;refine o1 ?_;refine ld ?_;refine o1 ?_;refine o1 ?_
 refine WL.cast (t:=15) (u':=.int .i64 ((a.x.length-1:Nat):Int)) rfl (aC (by omega)) ?_
 refine o1 ?_;refine dU ([.v (.int .u32 ((nth a.x (a.x.length-1):Nat):Int))]) (pO a.x (k:=a.x.length-1) (by omega)) ?_
 refine o1 ?_;refine o1 ?_;refine nl ?_;refine rt ?_;refine en (.inl rfl) rfl (aZ (cR _)) (by decide) (fun _=>trivial) (congrArg (fun b=>FV.one (tv (.bool b))) ?_)
 exact(uG rfl (by omega)).symm
theorem iO {a:Zi}{k:Int}(ha:Zn a k):aD false Tryz.prog 110 [] [gF a] (aP (kF k)):=by
 refine cC Tryz.func110 rfl Tryz.ntmps110 rfl aA rfl fun N w c0 h0=>?_
 refine sq ?_;refine rl ?_;refine bx 0 ?_;refine al 1 ?_;refine nl ?_;refine sq ?_;refine sq ?_;refine rl ?_;refine ld ?_
 refine ca (BI ha) UT ⟨aG rfl,rfl⟩ (.one (tv (.bool (dI a.s a.x)))) ?_;refine WL.splitb (t:=4) rfl (fun h1=>?_) (fun h1=>?_)
 ·refine o1 ?_;refine nl ?_;refine eN rfl ?_;refine sk ?_;refine sq ?_;refine rl ?_;refine ld ?_;refine st ?_;refine nl ?_;refine rt ?_
  exact en (.inl rfl) rfl (aZ (.agg (.read _ (l:=[.v (.bool a.s),sU false a.x]) rfl))) (by decide) (fun h=>by cases h) (AU ha h1)
 refine o1 ?_;refine nl ?_;refine gJ rfl ?_;refine sq ?_;refine rl ?_;refine o1 ?_;refine st ?_;refine nl ?_;refine rt ?_
 exact en (.inl rfl) rfl (aZ (.agg (.cons (.id rfl) (.cons .nilf .nil)))) (by decide) (fun h=>by cases h) (by rw[ha.wrong h1];exact Cb)
theorem lL {b:Bool}{xs:List Nat}{K:Int}(hx:xs.length≤1099511627776) (hl:Lim 4294967296 xs) (hK:bO b (vl 4294967296 xs)=K):aD true Tryz.prog 108 [] [.one (tv (.bool b)),.one (.t (sU false xs))] (aP (kO K)):=by
 refine cC Tryz.func108 rfl Tryz.ntmps108 rfl aA rfl fun N w c0 h0=>?_
 refine sq ?_;refine rl ?_;refine al 0 ?_;refine nl ?_;refine sq ?_;refine rl ?_;refine o1 ?_;refine iY 1 (HZ hx hl) QZ ⟨a1 rfl,rfl⟩ ?_;refine o1 ?_;refine nl ?_;refine sq ?_
 refine rl ?_;refine o1 ?_;refine o1 ?_;refine WL.splitb (t:=9) rfl (fun h1=>?_) (fun h1=>?_)
 ·(iterate 6 refine o1 ?_);refine st ?_;refine nl ?_;refine rt ?_
  exact en (.inl rfl) rfl (aZ (.agg (.cons (.id rfl) (.cons (.sl (trs:=aY (dg 4294967296 (vl 4294967296 xs))) rfl rfl (bV _) (bR _)) .nil)))) (by decide) (fun _=>Dn _ _) (hK▸uI (by rw[←Bn rfl,h1,Bool.true_and];exact decide_eq_decide.2 (by omega)) (iS _ _).symm)
 (iterate 3 refine cM ?_);(iterate 3 refine o1 ?_);refine st ?_;refine nl ?_;refine rt ?_
 exact en (.inl rfl) rfl (aZ (.agg (.cons (.id rfl) (.cons (.sl (trs:=aY (dg 4294967296 (vl 4294967296 xs))) rfl rfl (bV _) (bR _)) .nil)))) (by decide) (fun _=>Dn _ _) (hK▸uI (by rw[←Bn rfl,h1];rfl) (iS _ _).symm)
theorem zZ {n:Int}(h1:-9223372036854775808≤n) (h2:n≤9223372036854775807):aD true Tryz.prog 76 [] [.one (tv (.int .i64 n))] (aP (kO n)):=by
 refine cC Tryz.func76 rfl Tryz.ntmps76 rfl aA rfl fun N w c0 h0=>?_
 obtain⟨hr1,hr2,hq1,hq2,hv1,hv2⟩:=AT h1 h2
 refine sq ?_;refine rl ?_;refine al 0 ?_;refine nl ?_;refine sq ?_;refine rl ?_;(iterate 3 refine o1 ?_);refine o1 ?_ (hC:=(by exact⟨by omega,by simp only[iE];omega⟩))
 refine o1 ?_;refine o1 ?_;refine nl ?_;refine sq ?_;refine rl ?_;(iterate 6 refine o1 ?_)
 refine WL.cast (t:=14) (u':=.int .i64 (((Int.tmod n 4294967296).natAbs:Nat):Int)) rfl (aC (by omega)) ?_
 refine o1 ?_;refine WL.cast (t:=15) (u':=.int .u32 (((Int.tmod n 4294967296).natAbs:Nat):Int)) rfl (aC (by omega)) ?_
 (iterate 4 refine o1 ?_);refine WL.cast (t:=19) (u':=.int .i64 (((Int.tdiv n 4294967296).natAbs:Nat):Int)) rfl (aC (by omega)) ?_
 refine o1 ?_;refine WL.cast (t:=20) (u':=.int .u32 (((Int.tdiv n 4294967296).natAbs:Nat):Int)) rfl (aC (by omega)) ?_
 refine bs 1 ?_
 refine WL.sub (VM (i:=21) (zs:=[(Int.tmod n 4294967296).natAbs,(Int.tdiv n 4294967296).natAbs]) (zs':=[(Int.tmod n 4294967296).natAbs,(Int.tdiv n 4294967296).natAbs]) rfl rfl rfl rfl rfl) ?_
 refine iY 2 (lL (K:=n) (by simp) (Lim.cons (by omega) (Lim.cons (by omega) Lim.nil)) (NM hv1)) cT ⟨a1 rfl,a1 rfl,rfl⟩ ?_
 refine st ?_;refine nl ?_;refine rt ?_
 exact en (.inl rfl) rfl (aZ (.agg (.cons (.id rfl) (.cons (.sl (trs:=aY (dg 4294967296 (n).natAbs)) rfl rfl (bV _) (bR _)) .nil)))) (by decide) (fun _=>eS (n)) rfl
theorem OG {a b:Zi}{k k':Int}(ha:Zn a k) (hb:Zn b k'):aD true Tryz.prog 121 [] [gF a,gF b] (aP (.one (tv (.int .i64 (k-k').sign)))):=by
 refine cC Tryz.func121 rfl Tryz.ntmps121 rfl aA rfl fun N w c0 h0=>?_
 have hkl:=ha.len
 have hkl':=hb.len
 refine sq ?_;refine rl ?_;refine bx 0 ?_;refine bx 1 ?_;refine o1 ?_;refine nl ?_;refine sq ?_;refine rl ?_;refine ld ?_;refine ca (iO ha) nO ⟨aG rfl,rfl⟩ (kF (k)) ?_
 refine st ?_;refine nl ?_;refine sq ?_;refine rl ?_;refine ld ?_;refine ca (iO hb) nO ⟨aG rfl,rfl⟩ (kF (k')) ?_;refine st ?_;refine nl ?_;refine sq ?_;refine bl ?_;refine sq ?_
 refine rl ?_;refine o1 ?_;refine ld ?_;refine o1 ?_;refine WL.splitb (t:=12) rfl (fun h1=>?_) (fun h1=>?_)
 ·refine o1 ?_;refine ld ?_;refine WL.splitb (t:=14) rfl (fun h2=>?_) (fun h2=>?_)
  ·(iterate 3 refine o1 ?_);refine nl ?_;refine eN rfl ?_;refine sq ?_;refine rl ?_;refine o1 ?_;refine ld ?_;refine o1 ?_;refine WL.cast (t:=20) rfl (congrArg Value.bool h2) ?_
   refine o1 ?_;refine ld ?_;refine WL.cast (t:=22) rfl (congrArg Value.bool h1) ?_;(iterate 3 refine o1 ?_);refine nl ?_;refine eN rfl ?_;refine sq ?_;refine rl ?_;refine o1 ?_
   refine ld ?_;refine o1 ?_;refine nl ?_;refine gJ (congrArg (fun b=>FV.one (tv (.bool b))) h1) ?_
   refine sq ?_;refine rl ?_;refine o1 ?_;refine ld ?_;refine o1 ?_;refine ld ?_
   refine ca (Kw (by omega) (aM (by omega) _) (by omega) (aM (by omega) _)) Qm ⟨a1 rfl,a1 rfl,rfl⟩ (.one (tv (.int .i64 (((vl 4294967296 (dg 4294967296 (k').natAbs):Nat):Int)-((vl 4294967296 (dg 4294967296 (k).natAbs):Nat):Int)).sign))) ?_
   refine o1 ?_;refine nl ?_;refine rt ?_;refine en (.inl rfl) rfl (aZ (cR _)) (by decide) (fun _=>trivial) (congrArg (fun z=>FV.one (tv (.int .i64 z))) ?_)
   rw[bI,bI];exact HK h1 h2
  (iterate 3 refine o1 ?_);refine nl ?_;refine gJ rfl ?_;refine sq ?_;refine rl ?_;refine o1 ?_;refine nl ?_;refine rt ?_
  refine en (.inl rfl) rfl (aZ (cR _)) (by decide) (fun _=>trivial) (congrArg (fun z=>FV.one (tv (.int .i64 z))) ?_)
  exact HI h1 h2
 (iterate 3 refine cM ?_);refine o1 ?_;refine o1 ?_;refine nl ?_;refine eN rfl ?_;refine sq ?_;refine rl ?_;refine o1 ?_;refine ld ?_;refine o1 ?_
 refine WL.splitb (t:=20) rfl (fun h3=>?_) (fun h3=>?_)
 ·refine o1 ?_;refine ld ?_;refine WL.cast (t:=22) rfl (congrArg Value.bool h1) ?_;(iterate 3 refine o1 ?_);refine nl ?_;refine gJ rfl ?_;refine sq ?_;refine rl ?_;refine o1 ?_
  refine nl ?_;refine rt ?_;refine en (.inl rfl) rfl (aZ (cR _)) (by decide) (fun _=>trivial) (congrArg (fun z=>FV.one (tv (.int .i64 z))) ?_)
  exact HJ h1 h3
 (iterate 3 refine cM ?_);refine o1 ?_;refine o1 ?_;refine nl ?_;refine eN rfl ?_;refine sq ?_;refine rl ?_;refine o1 ?_;refine ld ?_;refine o1 ?_;refine nl ?_
 refine eN (congrArg (fun b=>FV.one (tv (.bool b))) h1) ?_
 refine sk ?_;refine sq ?_;refine rl ?_;refine o1 ?_;refine ld ?_;refine o1 ?_;refine ld ?_
 refine ca (Kw (by omega) (aM (by omega) _) (by omega) (aM (by omega) _)) Qm ⟨a1 rfl,a1 rfl,rfl⟩ (.one (tv (.int .i64 (((vl 4294967296 (dg 4294967296 (k).natAbs):Nat):Int)-((vl 4294967296 (dg 4294967296 (k').natAbs):Nat):Int)).sign))) ?_
 refine o1 ?_;refine nl ?_;refine rt ?_;refine en (.inl rfl) rfl (aZ (cR _)) (by decide) (fun _=>trivial) (congrArg (fun z=>FV.one (tv (.int .i64 z))) ?_)
 rw[bI,bI];exact HM h1 h3
theorem rV {a:Zi}{k:Int}(ha:Zn a k):aD true Tryz.prog 91 [] [gF a] (aP (.one (tv (.int .i64 k.sign)))):=by
 refine cC Tryz.func91 rfl Tryz.ntmps91 rfl aA rfl fun N w c0 h0=>?_
 have hkl:=ha.len
 refine sq ?_;refine rl ?_;refine bx 0 ?_;refine o1 ?_;refine nl ?_;refine sq ?_;refine rl ?_;refine ld ?_;refine o1 ?_
 refine ca (OG ha VN) QX ⟨aG rfl,RQ rfl (.cons .t (.cons .nil .nil)),rfl⟩ (.one (tv (.int .i64 ((k)-(0)).sign))) ?_;refine o1 ?_;refine nl ?_;refine rt ?_
 exact en (.inl rfl) rfl (aZ (cR _)) (by decide) (fun _=>trivial) (congrArg (fun z=>FV.one (tv (.int .i64 z))) (by rw[Int.sub_zero]))
theorem Hq {a:Zi}{k:Int}(ha:Zn a k):aD true Tryz.prog 95 [] [gF a] (aP (kO (-k))):=by
 refine cC Tryz.func95 rfl Tryz.ntmps95 rfl aA rfl fun N w c0 h0=>?_
 have hkl:=ha.len
 refine sq ?_;refine rl ?_;refine bx 0 ?_;refine al 1 ?_;refine nl ?_;refine sq ?_;refine rd [0,1] (fun i=>[8].contains i) mixed ?_
 refine aR 0 ?_;refine aR 4 ?_;refine bB 1 rfl (iO ha) nO ⟨aG rfl,rfl⟩ (kF (k)) ?_;refine df 2 ?_;refine df 3 ?_;refine bB 5 rfl (iO ha) nO ⟨aG rfl,rfl⟩ (kF (k)) ?_
 refine df 6 ?_;refine lN 2 7 rfl (lL (K:=-k) (by omega) (aM (by omega) _) (by rw[bI];exact Oj k)) cT ⟨a1 rfl,a1 rfl,rfl⟩ ?_
 refine dst 8 ?_;refine aS ?_;refine rt ?_
 exact en (.inl rfl) rfl (aZ (.agg (.cons (.id rfl) (.cons (.sl (trs:=aY (dg 4294967296 (-k).natAbs)) rfl rfl (bV _) (bR _)) .nil)))) (by decide) (fun _=>eS (-k)) rfl
theorem Sf {a b:Zi}{k k':Int}(ha:Zn a k) (hb:Zn b k'):aD true Tryz.prog 79 [] [gF a,gF b] (aP (kO (k+k'))):=by
 refine cC Tryz.func79 rfl Tryz.ntmps79 rfl aA rfl fun N w c0 h0=>?_
 have hkl:=ha.len
 have hkl':=hb.len
 refine sq ?_;refine rl ?_;refine bx 0 ?_;refine bx 1 ?_;refine al 2 ?_;refine nl ?_;refine sq ?_;refine rl ?_;refine ld ?_;refine ca (iO ha) nO ⟨aG rfl,rfl⟩ (kF (k)) ?_
 refine st ?_;refine nl ?_;refine sq ?_;refine rl ?_;refine ld ?_;refine ca (iO hb) nO ⟨aG rfl,rfl⟩ (kF (k')) ?_;refine st ?_;refine nl ?_;refine sq ?_;refine sq ?_;refine rl ?_
 refine o1 ?_;refine ld ?_;refine o1 ?_;refine ld ?_;refine o1 ?_;refine nl ?_;refine nV rfl (fun h1=>?_) (fun h1=>?_)
 ·refine sq ?_;refine rd [0,1,2] (fun i=>[8].contains i) mixed ?_
  refine dv 0 ?_;refine aR 1 ?_;refine dv 2 ?_;refine aR 3 ?_;refine dv 4 ?_;refine aR 5 ?_
  have hn2:=Dm (xs:=(dg 4294967296 (k).natAbs)) (ys:=(dg 4294967296 (k').natAbs)) (aM (by omega) _) (aM (by omega) _)
  refine bB 6 rfl (OF (by omega) (aM (by omega) _) (by omega) (aM (by omega) _)) QW ⟨a1 rfl,a1 rfl,rfl⟩ (.one (.t (sU false (dg 4294967296 (vl 4294967296 (dg 4294967296 (k).natAbs)+vl 4294967296 (dg 4294967296 (k').natAbs)))))) ?_
  refine lN 3 7 rfl (lL (K:=k+k') (by omega) (aM (by omega) _) (by simp only[cE (B:=4294967296) (by omega)];exact Fd rfl (eq_of_beq h1))) cT ⟨a1 rfl,a1 rfl,rfl⟩ ?_
  refine dst 8 ?_;refine aS ?_;refine rt ?_
  exact en (.inl rfl) rfl (aZ (.agg (.cons (.id rfl) (.cons (.sl (trs:=aY (dg 4294967296 (k+k').natAbs)) rfl rfl (bV _) (bR _)) .nil)))) (by decide) (fun _=>eS (k+k')) rfl
 refine sk ?_;refine sq ?_;refine rl ?_;refine o1 ?_;refine ld ?_;refine o1 ?_;refine ld ?_
 have hn3:=Ol (xs:=(dg 4294967296 (k).natAbs)) (ys:=(dg 4294967296 (k').natAbs)) (aM (by omega) _)
 refine ca (Wm (by omega) (aM (by omega) _) (by omega) (aM (by omega) _)) CL ⟨a1 rfl,a1 rfl,rfl⟩ (.tup [.one (.t (sU false (dg 4294967296 (vl 4294967296 (dg 4294967296 (k).natAbs)-vl 4294967296 (dg 4294967296 (k').natAbs))))),.one (tv (.int .i64 (if vl 4294967296 (dg 4294967296 (k).natAbs)<vl 4294967296 (dg 4294967296 (k').natAbs)then 2 else 0)))]) ?_
 (iterate 5 refine o1 ?_);refine nl ?_;refine sq ?_;refine sq ?_;refine rl ?_;refine o1 ?_;refine o1 ?_;refine nl ?_;refine bM rfl (fun h4=>?_) (fun h4=>?_)
 ·refine sq ?_;refine rl ?_;refine o1 ?_;refine ld ?_;refine o1 ?_
  refine iY 3 (lL (K:=k+k') (by omega) (aM (by omega) _) (by simp only[cE (B:=4294967296) (by omega)];exact Om rfl (ne_of_beq_false h1) (fun h8=>by rw[bI,bI,if_pos h8]at h4;omega))) cT ⟨a1 rfl,a1 rfl,rfl⟩ ?_
  refine st ?_;refine nl ?_;refine rt ?_
  exact en (.inl rfl) rfl (aZ (.agg (.cons (.id rfl) (.cons (.sl (trs:=aY (dg 4294967296 (k+k').natAbs)) rfl rfl (bV _) (bR _)) .nil)))) (by decide) (fun _=>eS (k+k')) rfl
 refine sk ?_;refine sq ?_;refine rl ?_;refine o1 ?_;refine ld ?_;refine o1 ?_;refine ld ?_
 have hn5:=Ol (xs:=(dg 4294967296 (k').natAbs)) (ys:=(dg 4294967296 (k).natAbs)) (aM (by omega) _)
 refine ca (Wm (by omega) (aM (by omega) _) (by omega) (aM (by omega) _)) CL ⟨a1 rfl,a1 rfl,rfl⟩ (.tup [.one (.t (sU false (dg 4294967296 (vl 4294967296 (dg 4294967296 (k').natAbs)-vl 4294967296 (dg 4294967296 (k).natAbs))))),.one (tv (.int .i64 (if vl 4294967296 (dg 4294967296 (k').natAbs)<vl 4294967296 (dg 4294967296 (k).natAbs)then 2 else 0)))]) ?_
 (iterate 4 refine o1 ?_);refine nl ?_;refine sq ?_;refine rl ?_;refine o1 ?_;refine ld ?_;refine o1 ?_
 refine iY 3 (lL (K:=k+k') (by omega) (aM (by omega) _) (by simp only[cE (B:=4294967296) (by omega)];exact On rfl (ne_of_beq_false h1) (Decidable.byContradiction fun h8=>h4 (by rw[bI,bI,if_neg h8])))) cT ⟨a1 rfl,a1 rfl,rfl⟩ ?_
 refine st ?_;refine nl ?_;refine rt ?_
 exact en (.inl rfl) rfl (aZ (.agg (.cons (.id rfl) (.cons (.sl (trs:=aY (dg 4294967296 (k+k').natAbs)) rfl rfl (bV _) (bR _)) .nil)))) (by decide) (fun _=>eS (k+k')) rfl
theorem JA {a b:Zi}{k k':Int}(ha:Zn a k) (hb:Zn b k'):aD true Tryz.prog 133 [] [gF a,gF b] (aP (kO (k-k'))):=by
 refine cC Tryz.func133 rfl Tryz.ntmps133 rfl aA rfl fun N w c0 h0=>?_
 have hkl:=ha.len
 have hkl':=hb.len
 refine sq ?_;refine rl ?_;refine bx 0 ?_;refine bx 1 ?_;refine al 2 ?_;refine nl ?_;refine sq ?_;refine rd [0,1,2] (fun i=>[4].contains i) mixed ?_
 refine aR 0 ?_;refine aR 1 ?_;have hn1:=jX (k')
 refine bB 2 rfl (Hq hb) Xu ⟨aG rfl,rfl⟩ (kF (-k')) ?_;refine lN 3 3 rfl (Sf ha (Zn.of (k:=-k') (by omega))) JB ⟨aG rfl,aG rfl,rfl⟩ ?_
 refine dst 4 ?_;refine aS ?_;refine rt ?_
 exact en (.inl rfl) rfl (aZ (.agg (.cons (.id rfl) (.cons (.sl (trs:=aY (dg 4294967296 (k+-k').natAbs)) rfl rfl (bV _) (bR _)) .nil)))) (by decide) (fun _=>eS (k+-k')) rfl
end Go.Proofs.YtbbabfkgdnkehaaGreat
