/- Part 9 of a proof: Mc to B2. -/
import Derived.Test.YthoemjjmkgmnjaaGreatM8
import Derived.Test.YthoemjjmkgmnjaaGreatM5
import Derived.Test.YthoemjjmkgmnjaaGreatM7
set_option maxRecDepth 100000
set_option linter.unusedVariables false
set_option linter.unusedSimpArgs false
namespace Go.Proofs.YthoemjjmkgmnjaaGreat
open Go Go.RowKit
namespace Mx
def E (M:Mx):Nat→Nat
 | 0=>1
 | n+1=>M.E n*((M.inc n).den*(M.ring n).den)
def D (M:Mx) (N:Nat):Nat:=M.cap.den*M.E N
structure Ok (M:Mx) (N:Nat):Prop where
 inc:∀y,y<N→Sz 4 (M.inc y)
 ring:∀y,y<N→Sz 4 (M.ring y)
 cap:Sz 4 M.cap
 c0:0≤M.cap
 c1:M.cap≤1
 r0:∀y,y<N→0≤M.ring y
 r1:∀y,y<N→M.ring y≤M.lim y
 n:N≤40
 w:M.w≤40
 b:M.b≤3
structure Iv (M:Mx) (N:Nat) (U:List Us):Prop where
 v:∀v,v<N→(0≤M.left U v∧M.left U v≤M.los v)∧Mu (M.D N) (M.left U v)
 y:∀y,y<N→(0≤eH U y∧M.ring y+eH U y≤M.lim y)∧Mu (M.D N) (eH U y)
end Mx
theorem QN {q:Rat}{B:Nat}(h:q.num.natAbs≤B):q≤(B:Rat):=by
 rcases Rat.le_total (a:=q) (b:=0)with h0 | h0
 ·exact Rat.le_trans h0 (by exact_mod_cast Nat.zero_le B)
 have h1:q*(q.den:Rat)=(q.num:Rat):=QM q
 have h2:(1:Rat)≤(q.den:Rat):=by exact_mod_cast q.den_pos
 have h3:q*1≤q*(q.den:Rat):=Rat.mul_le_mul_of_nonneg_left h2 h0
 have h4:(q.num:Rat)≤(B:Rat):=by
  have:q.num≤(B:Int):=by omega
  exact_mod_cast this
 grind
def BB:Nat:=340282366920938463463374607431768211456
theorem GN {q:Rat}(h:Sz 4 q):q≤(BB:Rat):=by
 refine QN ?_
 have h1:=qD (B:=4294967296) (by omega) (n:=q.num.natAbs)
 have h2:(4294967296:Nat)^(dg 4294967296 q.num.natAbs).length≤4294967296^4:=Nat.pow_le_pow_right (by omega) h.1
 have h3:(4294967296:Nat)^4=BB:=by decide
 omega
theorem QO:(dg 4294967296 BB).length≤5:=dH (by omega) (by decide)
section
variable {M:Mx}{N v y n k:Nat}{U:List Us}{m:Rat}
open Mx
theorem GO:∀n,0<M.E n
 | 0=>by simp[Mx.E]
 | n+1=>by
  have h1:=(M.inc n).den_pos
  have h2:=(M.ring n).den_pos
  exact Nat.mul_pos (GO n) (Nat.mul_pos h1 h2)
theorem Vd:∀{n y:Nat},y<n→Mu (M.E n) (M.inc y)∧Mu (M.E n) (M.ring y)
 | n+1,y,h=>by
  unfold Mx.E
  by_cases e:y=n
  ·subst e
   exact⟨(Mu.self _).up'.up,(Mu.self _).up.up⟩
  obtain⟨h1,h2⟩:=Vd (n:=n) (y:=y) (by omega)
  exact⟨h1.up',h2.up'⟩
theorem UU (h:∀y,y<n→Sz 4 (M.inc y)∧Sz 4 (M.ring y)):(dg 4294967296 (M.E n)).length≤1+8*n:=by
 induction n with
 | zero=>exact dH (by omega) (by simp[Mx.E])
 | succ n ih=>
  have h1:=ih fun y hy=>h y (by omega)
  obtain⟨h2,h3⟩:=h n (by omega)
  have h4:=oJ (M.E n) ((M.inc n).den*(M.ring n).den)
  have h5:=oJ (M.inc n).den (M.ring n).den
  have h6:=h2.2
  have h7:=h3.2
  unfold Mx.E
  omega
theorem Mx.Ok.len (h:M.Ok N):(dg 4294967296 (M.D N)).length≤325:=by
 have h1:=oJ M.cap.den (M.E N)
 have h2:=UU (M:=M) (n:=N) fun y hy=>⟨h.inc y hy,h.ring y hy⟩
 have h3:=h.cap.2
 have:=h.n
 unfold Mx.D
 omega
theorem UV:0<M.D N:=Nat.mul_pos M.cap.den_pos (GO N)
theorem Zp (h:y<N):Mu (M.D N) (M.inc y):=(Vd h).1.up
theorem So (h:y<N):Mu (M.D N) (M.ring y):=(Vd h).2.up
theorem Zq (h:y<N):Mu (M.D N) (M.lim y):=(Mu.self M.cap).mul (Vd h).1.abv
theorem Zr (h:y<N):Mu (M.D N) (M.los y):=(Mu.zero.sub (Zp h)).abv
theorem Mx.Ok.sz (h:M.Ok N){q:Rat}(h0:0≤q) (hB:q≤(BB:Rat)) (hm:Mu (M.D N) q):Sz 330 q:=hm.sz h0 hB UV (by have:=h.len;have:=QO;omega)
theorem GP:(0:Rat)≤(BB:Rat):=by exact_mod_cast Nat.zero_le BB
theorem Mx.Ok.abv_le (h:M.Ok N) (hy:y<N):abv (M.inc y)≤(BB:Rat):=by
 have h1:=GN (h.inc y hy)
 have:=GP
 rw[kZ]
 split <;> grind
theorem Mx.Ok.lim_le (h:M.Ok N):M.lim y≤abv (M.inc y):=by
 have h1:=Rat.mul_le_mul_of_nonneg_right h.c1 (zG (M.inc y))
 unfold Mx.lim
 grind
theorem Mx.Ok.lim_ge (h:M.Ok N):0≤M.lim y:=Rat.mul_nonneg h.c0 (zG _)
theorem Mx.Ok.los_le (h:M.Ok N) (hy:y<N):M.los y≤(BB:Rat):=by
 have h1:-(M.inc y)≤(BB:Rat):=GN (uF (h.inc y hy))
 have:=GP
 unfold Mx.los
 rw[kZ]
 split <;> grind
theorem Mx.Ok.sz_los (h:M.Ok N) (hy:y<N):Sz 330 (M.los y):=h.sz (zG _) (h.los_le hy) (Zr hy)
theorem Mx.Ok.sz_lim (h:M.Ok N) (hy:y<N):Sz 330 (M.lim y):=h.sz h.lim_ge (Rat.le_trans h.lim_le (h.abv_le hy)) (Zq hy)
theorem Mx.Ok.sz_inc (h:M.Ok N) (hy:y<N):Sz 330 (M.inc y):=(h.inc y hy).mono (by omega)
theorem Mx.Ok.sz_ring (h:M.Ok N) (hy:y<N):Sz 330 (M.ring y):=(h.ring y hy).mono (by omega)
theorem Mx.Iv.sz_left (hI:M.Iv N U) (h:M.Ok N) (hv:v<N):Sz 330 (M.left U v):=h.sz (hI.v v hv).1.1 (Rat.le_trans (hI.v v hv).1.2 (h.los_le hv)) (hI.v v hv).2
theorem Mx.Iv.in_le (hI:M.Iv N U) (h:M.Ok N) (hy:y<N):eH U y≤(BB:Rat):=by
 have h1:=(hI.y y hy).1.2
 have h2:=h.r0 y hy
 have h3:=h.lim_le (y:=y)
 have h4:=h.abv_le hy
 grind
theorem Mx.Iv.sz_in (hI:M.Iv N U) (h:M.Ok N) (hy:y<N):Sz 330 (eH U y):=h.sz (hI.y y hy).1.1 (hI.in_le h hy) (hI.y y hy).2
theorem Mx.Iv.tax_ge (hI:M.Iv N U) (h:M.Ok N) (hy:y<N):0≤M.tax U y:=by
 have h1:=(hI.y y hy).1.2
 have h3:=h.lim_le (y:=y)
 unfold Mx.tax
 grind
theorem Mx.Iv.sz_tax (hI:M.Iv N U) (h:M.Ok N) (hy:y<N):Sz 330 (M.tax U y):=by
 refine h.sz (hI.tax_ge h hy) ?_ ((Zp hy).abv.sub ((So hy).add (hI.y y hy).2))
 have h1:=(hI.y y hy).1.1
 have h2:=h.r0 y hy
 have h4:=h.abv_le hy
 unfold Mx.tax
 grind
theorem Gd (hI:M.Iv N U) (hy:y<N):M.room U y=M.lim y-(M.ring y+eH U y):=Zm (by have:=(hI.y y hy).1.2;grind)
theorem Sp (hI:M.Iv N U) (hy:y<N):Mu (M.D N) (M.room U y):=((Zq hy).sub ((So hy).add (hI.y y hy).2)).abv
theorem Mx.Iv.sz_room (hI:M.Iv N U) (h:M.Ok N) (hy:y<N):Sz 330 (M.room U y):=by
 refine h.sz Ge ?_ (Sp hI hy)
 rw[Gd hI hy]
 have h1:=(hI.y y hy).1.1
 have h2:=h.r0 y hy
 have h4:=h.abv_le hy
 have h3:=h.lim_le (y:=y)
 grind
theorem Mx.Iv.nil (h:M.Ok N):M.Iv N []:=by
 refine⟨fun v hv=>?_,fun y hy=>?_⟩
 ·have e:M.left [] v=M.los v:=by
   unfold Mx.left
   show M.los v-0=_
   grind
  rw[e]
  exact⟨⟨zG _,Rat.le_refl⟩,Zr hv⟩
 have e:eH [] y=0:=rfl
 rw[e]
 refine⟨⟨Rat.le_refl,?_⟩,.zero⟩
 have:=h.r1 y hy
 grind
theorem Mx.Iv.us (hI:M.Iv N U) (hv:v<N) (hy:y<N) (h1:m≤M.left U v) (h2:m≤M.room U y) (hm:Mu (M.D N) m):M.Iv N (M.us U v y m):=by
 unfold Mx.us
 split
 ·rename_i h0
  rw[Gd hI hy]at h2
  refine⟨fun v' hv'=>?_,fun y' hy'=>?_⟩
  ·by_cases e:v=v'
   ·subst e
    rw[Ce]
    obtain⟨⟨g1,g2⟩,g3⟩:=hI.v v hv
    exact⟨⟨by grind,by grind⟩,g3.sub hm⟩
   rw[Br e]
   exact hI.v v' hv'
  by_cases e:y=y'
  ·subst e
   rw[sC]
   obtain⟨⟨g1,g2⟩,g3⟩:=hI.y y hy
   exact⟨⟨by grind,by grind⟩,g3.add hm⟩
  rw[qM e]
  exact hI.y y' hy'
 exact hI
theorem Mx.Iv.use (hI:M.Iv N U) (hv:v<N) (hy:y<N):M.Iv N (M.use U v y):=hI.us hv hy (oU _ _) (nI _ _) ((hI.v v hv).2.min (Sp hI hy))
theorem Mx.Iv.fold {f:List Us→Nat→List Us}:∀(I:List Nat){U:List Us},M.Iv N U→(∀U x,M.Iv N U→x∈I→M.Iv N (f U x))→M.Iv N (I.foldl f U)
 | [],U,h,_=>h
 | x::I,U,h,hf=>by
  rw[List.foldl_cons]
  exact Mx.Iv.fold I (hf U x h (List.mem_cons_self ..)) fun U z hU hz=>hf U z hU (List.mem_cons_of_mem _ hz)
theorem Mx.Iv.back (hI:M.Iv N U) (hy:y<N) (hk:k≤y-(y-M.b)):M.Iv N (M.back U y k):=by
 refine Mx.Iv.fold _ hI fun U x hU hx=>hU.use hy ?_
 have:=List.mem_range'_1.1 hx
 omega
theorem Mx.Iv.fwd (hI:M.Iv N U) (hy:y<N) (hk:k≤y-(y-M.w)):M.Iv N (M.fwd U y k):=by
 refine Mx.Iv.fold _ hI fun U x hU hx=>hU.use ?_ hy
 have:=List.mem_range'_1.1 hx
 omega
theorem Mx.Iv.step (hI:M.Iv N U) (hy:y<N):M.Iv N (M.step U y):=by
 unfold Mx.step
 split
 ·exact hI.back hy (Nat.le_refl _)
 exact hI.fwd hy (Nat.le_refl _)
theorem Mx.Ok.run (h:M.Ok N):∀{k},k≤N→M.Iv N (M.run k)
 | 0,_=>Mx.Iv.nil h
 | k+1,hk=>(Mx.Ok.run h (k:=k) (by omega)).step (by omega)
theorem pK:M.back U y (k+1)=M.use (M.back U y k) y (y-M.b+k):=by
 unfold Mx.back
 rw[List.range'_concat,List.foldl_append]
 simp
theorem sD {v':Nat}(h:y≠v'):M.left (M.back U y k) v'=M.left U v':=by
 unfold Mx.back
 generalize List.range' (y-M.b) k=I
 induction I generalizing U with
 | nil=>rfl
 | cons x I ih=>rw[List.foldl_cons,ih,mY h]
theorem Zs {v':Nat}(h:y<v'):M.left (M.step U y) v'=M.left U v':=by
 unfold Mx.step
 split
 ·exact sD (by omega)
 exact mC _ _ fun hm=>by have:=List.mem_range'_1.1 hm;omega
theorem DT (h:k≤v):M.left (M.run k) v=M.los v:=by
 induction k with
 | zero=>
  show M.los v-0=_
  grind
 | succ k ih=>
  show M.left (M.step (M.run k) k) v=_
  rw[Zs (by omega),ih (by omega)]
theorem DU (h:v+M.w<y):M.left (M.step U y) v=M.left U v:=by
 unfold Mx.step
 split
 ·exact sD (by omega)
 exact mC _ _ fun hm=>by have:=List.mem_range'_1.1 hm;omega
theorem Ve (h:¬M.inc y<0):M.los y=0:=by
 unfold Mx.los
 rw[kZ]
 split <;> grind
def Mx.I (M:Mx) (k:Nat):List Nat:=List.range' (k-M.w) (k-(k-M.w))
theorem sJ {i:Nat}:i∈M.I k↔i<k∧k≤i+M.w:=by
 unfold Mx.I
 rw[List.mem_range'_1]
 omega
theorem zO:(M.I k).Nodup:=List.nodup_range' ..
theorem Ir {I J:List Nat}:wl M U (I++J)=wl M U I++wl M U J:=by simp[wl]
theorem xT {I:List Nat}{x:Int×Rat}(h:x∈wl M U I):∃i∈I,x=((i:Int),M.left U i)∧0<M.left U i:=by
 unfold wl at h
 obtain⟨i,hi,e⟩:=List.mem_filterMap.1 h
 split at e
 ·rename_i hp
  injection e with e
  exact⟨i,hi,e.symm,hp⟩
 cases e
theorem Dl {I:List Nat}:(wl M U I).length≤I.length:=List.length_filterMap_le ..
theorem Dk (h:M.w≤40):(M.I k).length≤40:=by
 unfold Mx.I
 rw[List.length_range']
 omega
theorem Is {I:List Nat}{p:Int→Bool}:(wl M U I).filter (fun x=>p x.1)=wl M U (I.filter fun(i:Nat)=>p (i:Int)):=by
 induction I with
 | nil=>rfl
 | cons i I ih=>
  by_cases hp:0<M.left U i
  ·rw[lE hp]
   cases hq:p (i:Int)with
   | true=>rw[List.filter_cons_of_pos (by exact hq),List.filter_cons_of_pos (by exact hq),lE hp,ih]
   | false=>rw[List.filter_cons_of_neg (by simp[hq]),List.filter_cons_of_neg (by simp[hq]),ih]
  rw[nE hp,ih]
  cases hq:p (i:Int)with
  | true=>rw[List.filter_cons_of_pos (by exact hq),nE hp]
  | false=>rw[List.filter_cons_of_neg (by simp[hq])]
theorem QP:M.I (k+1)=(M.I k++[k]).filter fun(i:Nat)=> !decide ((i:Int)<(k:Int)-(M.w:Int)+1):=by
 have e:M.I k++[k]=List.range' (k-M.w) (k+1-(k-M.w)):=by
  unfold Mx.I
  rw[show k+1-(k-M.w)=(k-(k-M.w))+1 by omega,List.range'_concat,show k-M.w+1*(k-(k-M.w))=k by omega]
 rw[e]
 unfold Mx.I
 by_cases h:k<M.w
 ·rw[show k+1-M.w=0 by omega,show k-M.w=0 by omega]
  symm
  rw[List.filter_eq_self]
  intro i hi
  simp
  omega
 rw[show k+1-(k-M.w)=M.w+1 by omega,List.range'_succ,List.filter_cons_of_neg (by simp;omega),show k+1-(k+1-M.w)=M.w by omega,show k-M.w+1=k+1-M.w by omega]
 symm
 rw[List.filter_eq_self]
 intro i hi
 have:=List.mem_range'_1.1 hi
 simp
 omega
end
section
variable {α:Type}
def sT (dl:α→Bool):List α→Nat
 | []=>0
 | x::l=>if dl x then 0 else sT dl l+1
theorem Dy {dl:α→Bool}:∀(l:List α),sT dl l≤l.length
 | []=>Nat.le_refl _
 | x::l=>by
  have:=Dy (dl:=dl) l
  unfold sT
  split <;> simp <;> omega
theorem rN {dl:α→Bool}{d:α}:∀{l:List α}{k:Nat},k≤sT dl l→k<l.length→(dl (l.getD k d)=true→sT dl l=k)∧(dl (l.getD k d)=false→k+1≤sT dl l)
 | [],_,_,h=>by simp at h
 | x::l,0,_,_=>by
  have e:(x::l).getD 0 d=x:=rfl
  rw[e]
  unfold sT
  exact⟨fun h=>by simp[h],fun h=>by simp[h]⟩
 | x::l,k+1,h,h2=>by
  have e:(x::l).getD (k+1) d=l.getD k d:=by simp
  rw[e]
  unfold sT at h⊢
  by_cases hx:dl x=true
  ·simp[hx]at h
  simp only[if_neg hx]at h⊢
  have:=rN (dl:=dl) (d:=d) (l:=l) (k:=k) (by omega) (by simpa using h2)
  exact⟨fun h=>by rw[this.1 h],fun h=>by have:=this.2 h;omega⟩
theorem Sq {dl:α→Bool}:∀(l:List α),l.any dl=decide (sT dl l<l.length)
 | []=>rfl
 | x::l=>by
  unfold sT
  by_cases hx:dl x=true
  ·simp[hx]
  simp only[if_neg hx,List.any_cons,Sq l,List.length_cons]
  simp[hx]
def Bj (dl:α→Bool) (l:List α):Int:=if sT dl l=l.length then-1 else(sT dl l:Int)
theorem Qf {dl:α→Bool}(l:List α):decide (0≤Bj dl l)=l.any dl:=by
 have h:=Dy (dl:=dl) l
 rw[Sq]
 unfold Bj
 split
 ·rw[decide_eq_decide];omega
 rw[decide_eq_decide];omega
end
def fM (ys:List (Fr4×Fr4)):Tr:=.s false 70 8 ys.length (ys.flatMap bV)
def dI (o o':Bool) (rs:List Rw):Tr:=.s o 66 24 rs.length (rs.flatMap (cE o'))
def cN (o o':Bool) (us:List Us):Tr:=.s o 46 14 us.length (us.flatMap (dQ o'))
theorem dY (o:Bool) (rs:List Rw):(rs.flatMap (cE o)).length=rs.length*24:=gA (dX o) rs
theorem kH (o:Bool) (us:List Us):(us.flatMap (dQ o)).length=us.length*14:=gA (lF o) us
theorem yH (ys:List (Fr4×Fr4)):(ys.flatMap bV).length=ys.length*8:=gA cV ys
theorem Cw:∀a b:List Tr,rdTL (a++b)=rdTL a++rdTL b:=by
 intro a b
 induction a with
 | nil=>rfl
 | cons x a ih=>simp only[List.cons_append,rdTL,ih]
theorem It {α:Type}{f g:α→List Tr}(h:∀x,rdTL (f x)=g x) (xs:List α):rdTL (xs.flatMap f)=xs.flatMap g:=by
 induction xs with
 | nil=>rfl
 | cons x xs ih=>rw[List.flatMap_cons,Cw,ih,h,List.flatMap_cons]
theorem GQ (o:Bool) (a:Fr4):rdTL (a.tr o)=a.tr false:=by
 have h:∀l:List Nat,rdTL (aV l)=aV l:=by
  intro l
  induction l with
  | nil=>rfl
  | cons x l ih=>simp only[aV,List.map_cons,rdTL,gR]at ih⊢;rw[ih]
 simp[Fr4.tr,sU,rdTL,gR,h]
theorem Jf (o:Bool) (rs:List Rw):rdTL (rs.flatMap (cE o))=rs.flatMap (cE false):=It (fun r=>by simp only[cE,Cw,GQ]) rs
theorem Jg (o:Bool) (us:List Us):rdTL (us.flatMap (dQ o))=us.flatMap (dQ false):=It (fun u=>by simp only[dQ,rdTL,gR,Cw,GQ]) us
def dD (M:Mx) (N:Nat) (r u l:AV):List AV:=[r,u,tv (.bool (Fr4.of M.cap).s),.t (sU false (Fr4.of M.cap).x),tv (.bool (Fr4.of M.cap).t),.t (sU false (Fr4.of M.cap).y),tv (.int .i64 ((M.b:Nat):Int)),tv (.int .i64 ((M.w:Nat):Int)),.t (fM (yrs M N)),l]
def mS (M:Mx) (N:Nat) (rs:List Rw) (us:List Us) (l:Tr):Lt:=⟨92,0,dD M N (.t (dI true false rs)) (.t (cN true false us)) (.t l)⟩
def dV (vs:List (Int×Rat)) (last:Int) (put:Bool):Tr:=.p true 136 [sR 97 vs,.v (.int .i64 last),.v (.bool put)]
theorem eD {a:Fr4}{p:Rat}(ha:Qn a p):aE false Tryz.prog 75 [] [qF a] (aN (qF (.of p))):=pB ha
theorem Aa {a b:Fr4}{p q:Rat}(ha:Qn a p) (hb:Qn b q):aE true Tryz.prog 81 [] [qF a,qF b] (aN (.one (tv (.int .i64 (p-q).num.sign)))):=by
 refine bC Tryz.func81 rfl Tryz.ntmps81 rfl aA rfl fun N w c0 h0=>?_
 have hs:=ha.sz;have hs':=hb.sz
 have hs1:=hs.1;have hs2:=hs.2;have hs3:=hs'.1;have hs4:=hs'.2
 have hs5:(dg 4294967296 ((p.den:Int)).natAbs).length≤68719476736:=hs2
 have hs6:(dg 4294967296 ((q.den:Int)).natAbs).length≤68719476736:=hs4
 refine sq ?_;refine rl ?_;refine bx 0 ?_;refine bx 1 ?_;refine o1 ?_;refine nl ?_
 refine md (γ:=Unit) (fun _=>bS [(2,.one (.pt 0 0)),(3,.one (.pt 1 0)),(4,.one (tv (.int .i64 ((0:Nat):Int))))]) (fun _=>([⟨26,0,((Fr4.of p).tr false).map .t⟩,⟨26,0,((Fr4.of q).tr false).map .t⟩]:List Ob).map some) (fun _=>True) ?_ fun _ _=>?_
 ·refine rd [0,1] (fun i=>[0,1,2,3,4,5].contains i) mixed ?_
  refine WO.two (i:=0) (j:=2) (by kernel_rfl) ?_ ?_
  ·refine kW 0 ?_;refine WO.two (i:=1) (j:=2) (by kernel_rfl) ?_ ?_
   ·refine cX 1 rfl (eD ha) gJ ⟨aB rfl,rfl⟩ (qF (.of p)) ?_;refine WO.one (by kernel_rfl) (kW 2 ?_)
    refine aF 3 rfl (eD hb) gJ ⟨aB rfl,rfl⟩ (qF (.of q)) ?_;refine dst 4 ?_;refine dst 5 ?_;refine aJ ?_
    exact⟨(),trivial,aG h0 [0,1] _ _ (by decide) ⟨rfl,rfl,rfl,trivial⟩ ⟨oe rfl rfl,oe rfl rfl,rfl⟩⟩
   refine kW 2 ?_;refine aF 1 rfl (eD ha) gJ ⟨aB rfl,rfl⟩ (qF (.of p)) ?_;refine aF 3 rfl (eD hb) gJ ⟨aB rfl,rfl⟩ (qF (.of q)) ?_;refine dst 4 ?_;refine dst 5 ?_
   refine aJ ?_;exact⟨(),trivial,aG h0 [0,1] _ _ (by decide) ⟨rfl,rfl,rfl,trivial⟩ ⟨oe rfl rfl,oe rfl rfl,rfl⟩⟩
  refine kW 2 ?_;refine WO.one (by kernel_rfl) (kW 0 ?_)
  refine aF 1 rfl (eD ha) gJ ⟨aB rfl,rfl⟩ (qF (.of p)) ?_;refine aF 3 rfl (eD hb) gJ ⟨aB rfl,rfl⟩ (qF (.of q)) ?_;refine dst 4 ?_;refine dst 5 ?_;refine aJ ?_
  exact⟨(),trivial,aG h0 [0,1] _ _ (by decide) ⟨rfl,rfl,rfl,trivial⟩ ⟨oe rfl rfl,oe rfl rfl,rfl⟩⟩
 refine sq ?_;refine rd [0,1] (fun i=>[11].contains i) mixed ?_
 refine dv 0 ?_;refine aI 1 ?_;refine dv 2 ?_;refine aI 3 ?_;refine dv 5 ?_;refine aI 6 ?_;refine dv 7 ?_;refine aI 8 ?_;have hn1:=dU (p.num) ((q.den:Int))
 refine aF 4 rfl (Fc (gZ hs) (eC hs')) wS ⟨aB rfl,aB rfl,rfl⟩ (kF ((p.num*(q.den:Int)))) ?_;have hn2:=dU (q.num) ((p.den:Int))
 refine aF 9 rfl (Fc (gZ hs') (eC hs)) wS ⟨aB rfl,aB rfl,rfl⟩ (kF ((q.num*(p.den:Int)))) ?_
 refine aF 10 rfl (Nz (Zn.of (k:=(p.num*(q.den:Int))) (by omega)) (Zn.of (k:=(q.num*(p.den:Int))) (by omega))) My ⟨aB rfl,aB rfl,rfl⟩ (.one (tv (.int .i64 ((p.num*(q.den:Int))-(q.num*(p.den:Int))).sign))) ?_
 refine cR 11 (by kernel_rfl) rfl rfl aA rfl (by trivial) ?_ (fun h=>by first | rfl | cases h)
 refine aJ ?_;refine rt ?_;exact en (.inl rfl) rfl (aO (bL _)) (by decide) (fun _=>trivial) (by rw[←Ys];rfl)
theorem DV {p q:Rat}(h:(p.num-q.num).sign=0):decide (((p.den:Int)-(q.den:Int)).sign=0)=decide (p=q):=by
 have h1:=Int.sign_eq_zero_iff_zero.1 h
 rw[decide_eq_decide,Int.sign_eq_zero_iff_zero]
 exact⟨fun h2=>Rat.ext (by omega) (by omega),fun h2=>by subst h2;omega⟩
theorem KJ {p q:Rat}(h:¬(p.num-q.num).sign=0):false=decide (p=q):=by
 refine(decide_eq_false fun h2=>h ?_).symm
 subst h2
 rw[Int.sub_self]
 rfl
theorem uO {a b:Fr4}{p q:Rat}(ha:Qn a p) (hb:Qn b q):aE true Tryz.prog 34 [] [qF a,qF b] (aN (.one (tv (.bool (decide (p=q)))))):=by
 refine bC Tryz.func34 rfl Tryz.ntmps34 rfl aA rfl fun N w c0 h0=>?_
 have hs:=ha.sz;have hs':=hb.sz
 refine sq ?_;refine rl ?_;refine bx 0 ?_;refine bx 1 ?_;refine o1 ?_;refine nl ?_
 refine md (γ:=Unit) (fun _=>bS [(2,.one (.pt 0 0)),(3,.one (.pt 1 0)),(4,.one (tv (.bool false)))]) (fun _=>([⟨26,0,((Fr4.of p).tr false).map .t⟩,⟨26,0,((Fr4.of q).tr false).map .t⟩]:List Ob).map some) (fun _=>True) ?_ fun _ _=>?_
 ·refine rd [0,1] (fun i=>[0,1,2,3,4,5].contains i) mixed ?_
  refine WO.two (i:=0) (j:=2) (by kernel_rfl) ?_ ?_
  ·refine kW 0 ?_;refine WO.two (i:=1) (j:=2) (by kernel_rfl) ?_ ?_
   ·refine cX 1 rfl (eD ha) gJ ⟨aB rfl,rfl⟩ (qF (.of p)) ?_;refine WO.one (by kernel_rfl) (kW 2 ?_)
    refine aF 3 rfl (eD hb) gJ ⟨aB rfl,rfl⟩ (qF (.of q)) ?_;refine dst 4 ?_;refine dst 5 ?_;refine aJ ?_
    exact⟨(),trivial,aG h0 [0,1] _ _ (by decide) ⟨rfl,rfl,rfl,trivial⟩ ⟨oe rfl rfl,oe rfl rfl,rfl⟩⟩
   refine kW 2 ?_;refine aF 1 rfl (eD ha) gJ ⟨aB rfl,rfl⟩ (qF (.of p)) ?_;refine aF 3 rfl (eD hb) gJ ⟨aB rfl,rfl⟩ (qF (.of q)) ?_;refine dst 4 ?_;refine dst 5 ?_
   refine aJ ?_;exact⟨(),trivial,aG h0 [0,1] _ _ (by decide) ⟨rfl,rfl,rfl,trivial⟩ ⟨oe rfl rfl,oe rfl rfl,rfl⟩⟩
  refine kW 2 ?_;refine WO.one (by kernel_rfl) (kW 0 ?_)
  refine aF 1 rfl (eD ha) gJ ⟨aB rfl,rfl⟩ (qF (.of p)) ?_;refine aF 3 rfl (eD hb) gJ ⟨aB rfl,rfl⟩ (qF (.of q)) ?_;refine dst 4 ?_;refine dst 5 ?_;refine aJ ?_
  exact⟨(),trivial,aG h0 [0,1] _ _ (by decide) ⟨rfl,rfl,rfl,trivial⟩ ⟨oe rfl rfl,oe rfl rfl,rfl⟩⟩
 refine sq ?_;refine rl ?_;refine o1 ?_;refine ld ?_;refine o1 ?_;refine ld ?_
 refine ca (Nz (gZ hs) (gZ hs')) My ⟨aB rfl,aB rfl,rfl⟩ (.one (tv (.int .i64 (p.num-q.num).sign))) ?_;refine o1 ?_;refine o1 ?_
 refine WL.split (t:=15) rfl (fun h1=>?_) (fun h1=>?_)
 ·refine o1 ?_;refine ld ?_;refine o1 ?_;refine ld ?_;refine ca (Nz (eC hs) (eC hs')) My ⟨aB rfl,aB rfl,rfl⟩ (.one (tv (.int .i64 ((p.den:Int)-(q.den:Int)).sign))) ?_
  (iterate 3 refine o1 ?_);refine nl ?_;refine rt ?_;exact en (.inl rfl) rfl (aO (bL _)) (by decide) (fun _=>trivial) (congrArg (fun z=>FV.one (tv (.bool z))) (DV h1))
 (iterate 6 refine bF ?_);refine o1 ?_;refine o1 ?_;refine nl ?_;refine rt ?_
 exact en (.inl rfl) rfl (aO (bL _)) (by decide) (fun _=>trivial) (congrArg (fun z=>FV.one (tv (.bool z))) (KJ h1))
theorem QQ {a b:Fr4}{p q:Rat}(ha:Qn a p) (hb:Qn b q):aE true Tryz.prog 162 [] [qF a,qF b] (aN (.one (tv (.bool (decide (q<p)))))):=by
 refine bC Tryz.func162 rfl Tryz.ntmps162 rfl aA rfl fun N w c0 h0=>?_
 refine sq ?_;refine rl ?_;refine bx 0 ?_;refine bx 1 ?_;refine o1 ?_;refine nl ?_;refine sq ?_;refine rl ?_;refine ld ?_;refine o1 ?_;refine ld ?_
 refine ca (Aa hb ha) Fy ⟨aB rfl,aB rfl,rfl⟩ (.one (tv (.int .i64 (q-p).num.sign))) ?_;refine o1 ?_;refine o1 ?_;refine nl ?_;refine rt ?_
 exact en (.inl rfl) rfl (aO (bL _)) (by decide) (fun _=>trivial) (congrArg (fun z=>FV.one (tv (.bool z))) (JX p q))
theorem QR {a:Fr4}:aE false Tryz.prog 161 [] [qF a] (aN (.one (.t (.f 162 [.a (a.tr false)] [])))):=by
 refine bC Tryz.func161 rfl Tryz.ntmps161 rfl aA rfl fun N w c0 h0=>?_
 refine sq ?_;refine rl ?_;refine bx 0 ?_;refine o1 ?_;refine nl ?_;refine sq ?_;refine rl ?_;refine ld ?_;refine o1 ?_;refine o1 ?_;refine nl ?_;refine rt ?_
 exact en (.inl rfl) rfl (aO (.one (.id rfl))) (by decide) (fun h=>by cases h) rfl
theorem QS {a:Fr4}{p:Rat}{xs:List Fr4}(ha:Qn a p) (hx:∀x∈xs,x.ok) (hl:xs.length≤1099511627776):aE false Tryz.prog 158 [] [qF a,.one (.t (sQ false xs)),.one (.t (.f 161 [] []))] (aN (qF (.of (aZ p (xs.map Fr4.q))))):=by
 refine bC Tryz.func158 rfl Tryz.ntmps158 rfl aA rfl fun N w c0 h0=>?_
 have hz:∀x∈xs,Sz 68719476736 x.q:=fun x h=>(show Qn x x.q from⟨hx x h,rfl⟩).sz
 refine sq ?_;refine rl ?_;refine bx 0 ?_;refine al 1 ?_;refine nl ?_;refine sq ?_;refine rl ?_;refine ld ?_;refine ca (eD ha) gJ ⟨aB rfl,rfl⟩ (qF (.of p)) ?_
 refine ca (lW (z:=0) (by omega) (by omega)) yD ⟨a1 rfl,rfl⟩ (qF (.of ((0:Int):Rat))) ?_
 refine ca (Fd ha.sz) wE ⟨aB rfl,aB rfl,rfl⟩ (qF (.of p)) ?_;refine al 2 ?_;refine st ?_;refine nl ?_;refine sq ?_;refine sq ?_;refine rl ?_;(iterate 3 refine o1 ?_);refine nl ?_
 refine bl ?_
 refine lp (γ:=Nat) (fun k=>bS [(2,.one (.t (.f 161 [] []))),(6,.one (.pt 0 0)),(7,.one (.pt 1 0)),(14,.one (.t (sQ false xs))),(15,.one (tv (.int .i64 ((xs.length:Nat):Int)))),(16,.one (tv (.int .i64 ((k:Nat):Int))))]) (fun k=>[(⟨26,0,[tv (.bool false),tv (.slice none 0 0),tv (.bool false),tv (.slice none 0 0)]⟩:Ob),⟨26,0,((Fr4.of (aZ p ((xs.take k).map Fr4.q))).tr false).map .t⟩].map some) (fun k=>k≤xs.length∧Sz 68719476736 (aZ p ((xs.take k).map Fr4.q))) (fun k=>xs.length-k) 0 ⟨Nat.zero_le _,ha.sz⟩ (aG h0 [1,2] _ _ (by decide) ⟨rfl,rfl,rfl,rfl,rfl,rfl,trivial⟩ ⟨oe rfl rfl,aQ rfl,rfl⟩) fun k hk=>?_
 refine sq ?_;refine rl ?_;refine o1 ?_;refine nl ?_;refine sq ?_;refine bP rfl (fun h1=>?_) (fun h1=>?_)
 ·refine sk ?_;refine sq ?_;refine bl ?_;refine sq ?_;refine rl ?_;refine o1 ?_;refine cW ((fF xs (k)).tr false) (uN xs (k:=k) (by omega)) ?_
  refine al 2 ?_;refine st ?_;refine nl ?_;refine sq ?_;refine rd [0,1,2] (fun i=>[].contains i) mixed ?_
  refine dv 0 ?_;refine aI 1 ?_;refine dv 2 ?_;refine aI 4 ?_
  refine GA 3 3 [.agg [tv (.bool (aL (aZ p ((xs.take k).map Fr4.q)).num)),.t (sU false (dg 4294967296 (aZ p ((xs.take k).map Fr4.q)).num.natAbs)),tv (.bool false),.t (sU false (dg 4294967296 (aZ p ((xs.take k).map Fr4.q)).den))]] rfl rfl (QR (a:=.of (aZ p ((xs.take k).map Fr4.q)))) UF ⟨rfl,rfl⟩ ?_
  refine GA 5 3 [qF (fF xs (k))] rfl rfl (QQ (a:=.of (aZ p ((xs.take k).map Fr4.q))) (b:=(fF xs (k))) (Qn.of (p:=(aZ p ((xs.take k).map Fr4.q))) hk.2) ⟨hx _ (fJ (by omega)),rfl⟩) UG ⟨rfl,rfl⟩ ?_
  refine aJ ?_;refine bP rfl (fun h2=>?_) (fun h2=>?_)
  ·refine rl ?_;refine ld ?_;refine ca (eD ⟨hx _ (fJ (by omega)),rfl⟩) gJ ⟨aB rfl,rfl⟩ (qF (.of (fF xs (k)).q)) ?_
   refine ca (lW (z:=0) (by omega) (by omega)) yD ⟨a1 rfl,rfl⟩ (qF (.of ((0:Int):Rat))) ?_
   refine ca (Fd (hz _ (fJ (by omega)))) wE ⟨aB rfl,aB rfl,rfl⟩ (qF (.of (fF xs (k)).q)) ?_
   refine st ?_;refine nl ?_;refine rl ?_;refine o1 ?_;refine WL.cast (t:=30) (u':=.int .i64 ((k+1:Nat):Int)) rfl (aH (by omega)) ?_
   refine o1 ?_;refine nl ?_;have hst:(aZ p ((xs.take (k+1)).map Fr4.q))=(fF xs k).q:=by rw[rP (by omega),Io];exact if_pos h2
   exact⟨k+1,by omega,⟨by omega,by rw[hst];exact hz _ (fJ (by omega))⟩,aG h0 [0,1] _ _ (by decide) ⟨rfl,rfl,rfl,rfl,rfl,rfl,trivial⟩ ⟨oe rfl rfl,aQ (congrArg (fun q=>some (⟨26,0,((Fr4.of q).tr false).map .t⟩:Ob)) hst.symm),rfl⟩⟩
  refine sk ?_;refine rl ?_;refine o1 ?_;refine WL.cast (t:=30) (u':=.int .i64 ((k+1:Nat):Int)) rfl (aH (by omega)) ?_
  refine o1 ?_;refine nl ?_;have hst:(aZ p ((xs.take (k+1)).map Fr4.q))=(aZ p ((xs.take k).map Fr4.q)):=by rw[rP (by omega),Io];exact if_neg h2
  exact⟨k+1,by omega,⟨by omega,by rw[hst];exact hk.2⟩,aG h0 [0,1] _ _ (by decide) ⟨rfl,rfl,rfl,rfl,rfl,rfl,trivial⟩ ⟨oe rfl rfl,aQ (congrArg (fun q=>some (⟨26,0,((Fr4.of q).tr false).map .t⟩:Ob)) hst.symm),rfl⟩⟩
 refine ex ?_;refine sq ?_;refine rl ?_;refine ld ?_;refine st ?_;refine nl ?_;refine rt ?_
 exact en (.inl rfl) rfl (aO (.agg (.cons (.id rfl) (.cons (.id rfl) (.cons (.id rfl) (.cons (.id rfl) .nil)))))) (by decide) (fun h=>by cases h) (by rw[List.take_of_length_le (by omega)];rfl)
theorem RD {a:Fr4}{p:Rat}{xs:List Fr4}(ha:Qn a p) (hx:∀x∈xs,x.ok) (hl:xs.length≤1099511627776):aE false Tryz.prog 123 [] [qF a,.one (.t (sQ false xs))] (aN (qF (.of (aZ p (xs.map Fr4.q))))):=by
 refine bC Tryz.func123 rfl Tryz.ntmps123 rfl aA rfl fun N w c0 h0=>?_
 refine sq ?_;refine rl ?_;refine bx 0 ?_;refine al 1 ?_;refine nl ?_;refine sq ?_;refine rl ?_;refine ld ?_;refine o1 ?_
 refine ca (QS ha hx hl) FS ⟨aB rfl,a1 rfl,a1 rfl,rfl⟩ (qF (.of (aZ p (xs.map Fr4.q)))) ?_;refine st ?_;refine nl ?_;refine rt ?_
 exact en (.inl rfl) rfl (aO (.agg (.cons (.id rfl) (.cons (.id rfl) (.cons (.id rfl) (.cons (.id rfl) .nil)))))) (by decide) (fun h=>by cases h) (rfl)
theorem UW {a b:Fr4}{p q:Rat}(ha:Qn a p) (hb:Qn b q):aE true Tryz.prog 74 [] [qF a,qF b] (aN (qO (p*q))):=by
 refine bC Tryz.func74 rfl Tryz.ntmps74 rfl aA rfl fun N w c0 h0=>?_
 have hs:=ha.sz;have hs':=hb.sz
 have hs1:=hs.1;have hs2:=hs.2;have hs3:=hs'.1;have hs4:=hs'.2
 have hs5:(dg 4294967296 ((p.den:Int)).natAbs).length≤68719476736:=hs2
 have hs6:(dg 4294967296 ((q.den:Int)).natAbs).length≤68719476736:=hs4
 refine sq ?_;refine rl ?_;refine bx 0 ?_;refine bx 1 ?_;refine al 2 ?_;refine nl ?_
 refine md (γ:=Unit) (fun _=>bS [(2,.one (.pt 0 0)),(3,.one (.pt 1 0)),(4,.one (.pt 2 0))]) (fun _=>([⟨26,0,((Fr4.of p).tr false).map .t⟩,⟨26,0,((Fr4.of q).tr false).map .t⟩,⟨26,0,[tv (.bool false),tv (.slice none 0 0),tv (.bool false),tv (.slice none 0 0)]⟩]:List Ob).map some) (fun _=>True) ?_ fun _ _=>?_
 ·refine rd [0,1,2] (fun i=>[0,1,2,3,4,5].contains i) mixed ?_
  refine WO.two (i:=0) (j:=2) (by kernel_rfl) ?_ ?_
  ·refine kW 0 ?_;refine WO.two (i:=1) (j:=2) (by kernel_rfl) ?_ ?_
   ·refine cX 1 rfl (eD ha) gJ ⟨aB rfl,rfl⟩ (qF (.of p)) ?_;refine WO.one (by kernel_rfl) (kW 2 ?_)
    refine aF 3 rfl (eD hb) gJ ⟨aB rfl,rfl⟩ (qF (.of q)) ?_;refine dst 4 ?_;refine dst 5 ?_;refine aJ ?_
    exact⟨(),trivial,aG h0 [0,1,2] _ _ (by decide) ⟨rfl,rfl,rfl,trivial⟩ ⟨oe rfl rfl,oe rfl rfl,oe rfl rfl,rfl⟩⟩
   refine kW 2 ?_;refine aF 1 rfl (eD ha) gJ ⟨aB rfl,rfl⟩ (qF (.of p)) ?_;refine aF 3 rfl (eD hb) gJ ⟨aB rfl,rfl⟩ (qF (.of q)) ?_;refine dst 4 ?_;refine dst 5 ?_
   refine aJ ?_;exact⟨(),trivial,aG h0 [0,1,2] _ _ (by decide) ⟨rfl,rfl,rfl,trivial⟩ ⟨oe rfl rfl,oe rfl rfl,oe rfl rfl,rfl⟩⟩
  refine kW 2 ?_;refine WO.one (by kernel_rfl) (kW 0 ?_)
  refine aF 1 rfl (eD ha) gJ ⟨aB rfl,rfl⟩ (qF (.of p)) ?_;refine aF 3 rfl (eD hb) gJ ⟨aB rfl,rfl⟩ (qF (.of q)) ?_;refine dst 4 ?_;refine dst 5 ?_;refine aJ ?_
  exact⟨(),trivial,aG h0 [0,1,2] _ _ (by decide) ⟨rfl,rfl,rfl,trivial⟩ ⟨oe rfl rfl,oe rfl rfl,oe rfl rfl,rfl⟩⟩
 refine sq ?_;refine rd [0,1,2] (fun i=>[11].contains i) mixed ?_
 refine dv 0 ?_;refine aI 1 ?_;refine dv 2 ?_;refine aI 3 ?_;refine dv 5 ?_;refine aI 6 ?_;refine dv 7 ?_;refine aI 8 ?_;have hn1:=dU (p.num) (q.num)
 refine aF 4 rfl (Fc (gZ hs) (gZ hs')) wS ⟨aB rfl,aB rfl,rfl⟩ (kF ((p.num*q.num))) ?_;have hn2:=dU ((p.den:Int)) ((q.den:Int))
 refine aF 9 rfl (Fc (eC hs) (eC hs')) wS ⟨aB rfl,aB rfl,rfl⟩ (kF (((p.den:Int)*(q.den:Int)))) ?_
 refine kG 3 10 rfl (Zo (Zn.of (k:=(p.num*q.num)) (by omega)) (Zn.of (k:=((p.den:Int)*(q.den:Int))) (by omega)) (den_nz p q)) Uj ⟨aB rfl,aB rfl,rfl⟩ ?_
 refine dst 11 ?_;refine aJ ?_;refine rt ?_
 exact en (.inl rfl) rfl (aO (.agg (.cons (.id rfl) (.cons (.sl (trs:=aV (dg 4294967296 (Rat.divInt (p.num*q.num) ((p.den:Int)*(q.den:Int))).num.natAbs)) rfl rfl (bB _) (aY _)) (.cons (.id rfl) (.cons (.sl (trs:=aV (dg 4294967296 (Rat.divInt (p.num*q.num) ((p.den:Int)*(q.den:Int))).den)) rfl rfl (bB _) (aY _)) .nil)))))) (by decide) (fun _=>mU _) (congrArg qO (GM p q))
theorem QT {a b:Fr4}{p q:Rat}(ha:Qn a p) (hb:Qn b q):aE true Tryz.prog 160 [] [qF a,qF b] (aN (.one (tv (.bool (decide (p<q)))))):=by
 refine bC Tryz.func160 rfl Tryz.ntmps160 rfl aA rfl fun N w c0 h0=>?_
 refine sq ?_;refine rl ?_;refine bx 0 ?_;refine bx 1 ?_;refine o1 ?_;refine nl ?_;refine sq ?_;refine rl ?_;refine ld ?_;refine o1 ?_;refine ld ?_
 refine ca (Aa hb ha) Fy ⟨aB rfl,aB rfl,rfl⟩ (.one (tv (.int .i64 (q-p).num.sign))) ?_;refine o1 ?_;refine o1 ?_;refine nl ?_;refine rt ?_
 exact en (.inl rfl) rfl (aO (bL _)) (by decide) (fun _=>trivial) (congrArg (fun z=>FV.one (tv (.bool z))) (Sa p q))
theorem QU {a:Fr4}:aE false Tryz.prog 159 [] [qF a] (aN (.one (.t (.f 160 [.a (a.tr false)] [])))):=by
 refine bC Tryz.func159 rfl Tryz.ntmps159 rfl aA rfl fun N w c0 h0=>?_
 refine sq ?_;refine rl ?_;refine bx 0 ?_;refine o1 ?_;refine nl ?_;refine sq ?_;refine rl ?_;refine ld ?_;refine o1 ?_;refine o1 ?_;refine nl ?_;refine rt ?_
 exact en (.inl rfl) rfl (aO (.one (.id rfl))) (by decide) (fun h=>by cases h) rfl
theorem KK {a:Fr4}{p:Rat}{xs:List Fr4}(ha:Qn a p) (hx:∀x∈xs,x.ok) (hl:xs.length≤1099511627776):aE false Tryz.prog 158 [] [qF a,.one (.t (sQ false xs)),.one (.t (.f 159 [] []))] (aN (qF (.of (jX p (xs.map Fr4.q))))):=by
 refine bC Tryz.func158 rfl Tryz.ntmps158 rfl aA rfl fun N w c0 h0=>?_
 have hz:∀x∈xs,Sz 68719476736 x.q:=fun x h=>(show Qn x x.q from⟨hx x h,rfl⟩).sz
 refine sq ?_;refine rl ?_;refine bx 0 ?_;refine al 1 ?_;refine nl ?_;refine sq ?_;refine rl ?_;refine ld ?_;refine ca (eD ha) gJ ⟨aB rfl,rfl⟩ (qF (.of p)) ?_
 refine ca (lW (z:=0) (by omega) (by omega)) yD ⟨a1 rfl,rfl⟩ (qF (.of ((0:Int):Rat))) ?_
 refine ca (Fd ha.sz) wE ⟨aB rfl,aB rfl,rfl⟩ (qF (.of p)) ?_;refine al 2 ?_;refine st ?_;refine nl ?_;refine sq ?_;refine sq ?_;refine rl ?_;(iterate 3 refine o1 ?_);refine nl ?_
 refine bl ?_
 refine lp (γ:=Nat) (fun k=>bS [(2,.one (.t (.f 159 [] []))),(6,.one (.pt 0 0)),(7,.one (.pt 1 0)),(14,.one (.t (sQ false xs))),(15,.one (tv (.int .i64 ((xs.length:Nat):Int)))),(16,.one (tv (.int .i64 ((k:Nat):Int))))]) (fun k=>[(⟨26,0,[tv (.bool false),tv (.slice none 0 0),tv (.bool false),tv (.slice none 0 0)]⟩:Ob),⟨26,0,((Fr4.of (jX p ((xs.take k).map Fr4.q))).tr false).map .t⟩].map some) (fun k=>k≤xs.length∧Sz 68719476736 (jX p ((xs.take k).map Fr4.q))) (fun k=>xs.length-k) 0 ⟨Nat.zero_le _,ha.sz⟩ (aG h0 [1,2] _ _ (by decide) ⟨rfl,rfl,rfl,rfl,rfl,rfl,trivial⟩ ⟨oe rfl rfl,aQ rfl,rfl⟩) fun k hk=>?_
 refine sq ?_;refine rl ?_;refine o1 ?_;refine nl ?_;refine sq ?_;refine bP rfl (fun h1=>?_) (fun h1=>?_)
 ·refine sk ?_;refine sq ?_;refine bl ?_;refine sq ?_;refine rl ?_;refine o1 ?_;refine cW ((fF xs (k)).tr false) (uN xs (k:=k) (by omega)) ?_
  refine al 2 ?_;refine st ?_;refine nl ?_;refine sq ?_;refine rd [0,1,2] (fun i=>[].contains i) mixed ?_
  refine dv 0 ?_;refine aI 1 ?_;refine dv 2 ?_;refine aI 4 ?_
  refine GA 3 3 [.agg [tv (.bool (aL (jX p ((xs.take k).map Fr4.q)).num)),.t (sU false (dg 4294967296 (jX p ((xs.take k).map Fr4.q)).num.natAbs)),tv (.bool false),.t (sU false (dg 4294967296 (jX p ((xs.take k).map Fr4.q)).den))]] rfl rfl (QU (a:=.of (jX p ((xs.take k).map Fr4.q)))) UD ⟨rfl,rfl⟩ ?_
  refine GA 5 3 [qF (fF xs (k))] rfl rfl (QT (a:=.of (jX p ((xs.take k).map Fr4.q))) (b:=(fF xs (k))) (Qn.of (p:=(jX p ((xs.take k).map Fr4.q))) hk.2) ⟨hx _ (fJ (by omega)),rfl⟩) UE ⟨rfl,rfl⟩ ?_
  refine aJ ?_;refine bP rfl (fun h2=>?_) (fun h2=>?_)
  ·refine rl ?_;refine ld ?_;refine ca (eD ⟨hx _ (fJ (by omega)),rfl⟩) gJ ⟨aB rfl,rfl⟩ (qF (.of (fF xs (k)).q)) ?_
   refine ca (lW (z:=0) (by omega) (by omega)) yD ⟨a1 rfl,rfl⟩ (qF (.of ((0:Int):Rat))) ?_
   refine ca (Fd (hz _ (fJ (by omega)))) wE ⟨aB rfl,aB rfl,rfl⟩ (qF (.of (fF xs (k)).q)) ?_
   refine st ?_;refine nl ?_;refine rl ?_;refine o1 ?_;refine WL.cast (t:=30) (u':=.int .i64 ((k+1:Nat):Int)) rfl (aH (by omega)) ?_
   refine o1 ?_;refine nl ?_;have hst:(jX p ((xs.take (k+1)).map Fr4.q))=(fF xs k).q:=by rw[rP (by omega),Iq];exact if_pos h2
   exact⟨k+1,by omega,⟨by omega,by rw[hst];exact hz _ (fJ (by omega))⟩,aG h0 [0,1] _ _ (by decide) ⟨rfl,rfl,rfl,rfl,rfl,rfl,trivial⟩ ⟨oe rfl rfl,aQ (congrArg (fun q=>some (⟨26,0,((Fr4.of q).tr false).map .t⟩:Ob)) hst.symm),rfl⟩⟩
  refine sk ?_;refine rl ?_;refine o1 ?_;refine WL.cast (t:=30) (u':=.int .i64 ((k+1:Nat):Int)) rfl (aH (by omega)) ?_
  refine o1 ?_;refine nl ?_;have hst:(jX p ((xs.take (k+1)).map Fr4.q))=(jX p ((xs.take k).map Fr4.q)):=by rw[rP (by omega),Iq];exact if_neg h2
  exact⟨k+1,by omega,⟨by omega,by rw[hst];exact hk.2⟩,aG h0 [0,1] _ _ (by decide) ⟨rfl,rfl,rfl,rfl,rfl,rfl,trivial⟩ ⟨oe rfl rfl,aQ (congrArg (fun q=>some (⟨26,0,((Fr4.of q).tr false).map .t⟩:Ob)) hst.symm),rfl⟩⟩
 refine ex ?_;refine sq ?_;refine rl ?_;refine ld ?_;refine st ?_;refine nl ?_;refine rt ?_
 exact en (.inl rfl) rfl (aO (.agg (.cons (.id rfl) (.cons (.id rfl) (.cons (.id rfl) (.cons (.id rfl) .nil)))))) (by decide) (fun h=>by cases h) (by rw[List.take_of_length_le (by omega)];rfl)
theorem UX {a:Fr4}{p:Rat}{xs:List Fr4}(ha:Qn a p) (hx:∀x∈xs,x.ok) (hl:xs.length≤1099511627776):aE false Tryz.prog 122 [] [qF a,.one (.t (sQ false xs))] (aN (qF (.of (jX p (xs.map Fr4.q))))):=by
 refine bC Tryz.func122 rfl Tryz.ntmps122 rfl aA rfl fun N w c0 h0=>?_
 refine sq ?_;refine rl ?_;refine bx 0 ?_;refine al 1 ?_;refine nl ?_;refine sq ?_;refine rl ?_;refine ld ?_;refine o1 ?_
 refine ca (KK ha hx hl) FS ⟨aB rfl,a1 rfl,a1 rfl,rfl⟩ (qF (.of (jX p (xs.map Fr4.q)))) ?_;refine st ?_;refine nl ?_;refine rt ?_
 exact en (.inl rfl) rfl (aO (.agg (.cons (.id rfl) (.cons (.id rfl) (.cons (.id rfl) (.cons (.id rfl) .nil)))))) (by decide) (fun h=>by cases h) (rfl)
theorem uG:aE true Tryz.prog 84 [] [] (aN (qO ((0:Int):Rat))):=by
 refine bC Tryz.func84 rfl Tryz.ntmps84 rfl aA rfl fun N w c0 h0=>?_
 refine sq ?_;refine rl ?_;refine al 0 ?_;refine nl ?_;refine sq ?_;refine rl ?_;refine iI 1 (lW (z:=0) (by omega) (by omega)) yD ⟨a1 rfl,rfl⟩ ?_
 refine st ?_;refine nl ?_;refine rt ?_
 exact en (.inl rfl) rfl (aO (.agg (.cons (.id rfl) (.cons (.sl (trs:=aV (dg 4294967296 ((0:Int):Rat).num.natAbs)) rfl rfl (bB _) (aY _)) (.cons (.id rfl) (.cons (.sl (trs:=aV (dg 4294967296 ((0:Int):Rat).den)) rfl rfl (bB _) (aY _)) .nil)))))) (by decide) (fun _=>mU _) rfl
theorem UY:(Fr4.of ((0:Int):Rat)).ok:=(Qn.of (p:=((0:Int):Rat)) ((kX (z:=0) (by omega) (by omega)).mono (M:=68719476736) (by omega))).1
theorem QV {a:Fr4}{p:Rat}(ha:Qn a p):aE false Tryz.prog 122 [] [qF a,.one (.t (sQ false [Fr4.of ((0:Int):Rat)]))] (aN (qF (.of (abv p)))):=by
 have h:=UX (a:=a) (xs:=[Fr4.of ((0:Int):Rat)]) ha (fun x hx=>by rw[List.mem_singleton]at hx;rw[hx];exact UY) (by simp)
 have e:[Fr4.of ((0:Int):Rat)].map Fr4.q=[0]:=by rw[List.map_cons,Fr4.q_of];rfl
 rwa[e]at h
theorem oR {a:Fr4}{p:Rat}(ha:Qn a p):aE false Tryz.prog 83 [] [qF a] (aN (qF (.of (abv p)))):=by
 refine bC Tryz.func83 rfl Tryz.ntmps83 rfl aA rfl fun N w c0 h0=>?_
 refine sq ?_;refine rl ?_;refine bx 0 ?_;refine al 1 ?_;refine nl ?_;refine sq ?_;refine rd [0,1] (fun i=>[3,4].contains i) mixed ?_
 refine aI 0 ?_;refine aF 1 rfl (uG) Fm rfl (qF (.of ((0:Int):Rat))) ?_;refine eZ (key:=2) 2 (by kernel_rfl) rfl rfl aA rfl ⟨rfl,rfl,trivial⟩ ?_
 refine jG (i:=5) (k:=2) (t:=26) (t':=49) (z:=4) (n:=1) (l:=[Fr4.of ((0:Int):Rat)].flatMap (Fr4.tr false)) rfl rfl rfl rfl (.one .sl) (by rfl) (by rfl) ?_
 refine aF 3 rfl (QV ha) UA ⟨aB rfl,a1 rfl,rfl⟩ (qF (.of (abv p))) ?_;refine dst 4 ?_;refine aJ ?_;refine rt ?_
 exact en (.inl rfl) rfl (aO (.agg (.cons (.id rfl) (.cons (.id rfl) (.cons (.id rfl) (.cons (.id rfl) .nil)))))) (by decide) (fun h=>by cases h) (rfl)
theorem Fl {c a b:Fr4}{q p:Rat}{bk fw:Int}(hc:Qn c q) (ha:Qn a p):aE false Tryz.prog 82 [] [.agg ((c.tr false++[.v (.int .i64 bk),.v (.int .i64 fw)]:List Tr).map .t),.agg ((bV (a,b)).map .t)] (aN (qO (q*abv p))):=by
 refine bC Tryz.func82 rfl Tryz.ntmps82 rfl aA rfl fun N w c0 h0=>?_
 have hs:Sz 68719476736 (abv p):=cQ ha.sz (by omega)
 refine sq ?_;refine rl ?_;refine bx 0 ?_;refine bx 1 ?_;refine al 2 ?_;refine nl ?_;refine sq ?_;refine rd [0,1,2] (fun i=>[6].contains i) mixed ?_
 refine dv 0 ?_;refine aI 1 ?_;refine dv 2 ?_;refine aI 3 ?_;refine aF 4 rfl (oR ha) Bx ⟨aB rfl,rfl⟩ (qF (.of (abv p))) ?_
 refine kG 3 5 rfl (UW hc (Qn.of (p:=(abv p)) hs)) YM ⟨aB rfl,aB rfl,rfl⟩ ?_;refine dst 6 ?_;refine aJ ?_;refine rt ?_
 exact en (.inl rfl) rfl (aO (.agg (.cons (.id rfl) (.cons (.sl (trs:=aV (dg 4294967296 (q*abv p).num.natAbs)) rfl rfl (bB _) (aY _)) (.cons (.id rfl) (.cons (.sl (trs:=aV (dg 4294967296 (q*abv p).den)) rfl rfl (bB _) (aY _)) .nil)))))) (by decide) (fun h=>by cases h) rfl
theorem KL {xs:List (Fr4×Fr4)}{dl:(Fr4×Fr4)→Bool}{fd:FuncId}{fst caps:List Tr}(hok:CallOk Tryz.prog fd) (hd:∀x∈xs,aE true Tryz.prog fd [] (cP fst++[.agg ((bV x).map .t)]++cP caps) (aN (.one (tv (.bool (dl x)))))) (hl:xs.length≤1073741823):aE true Tryz.prog 119 [] [.one (.t (fM xs)),.one (.t (.f fd fst caps))] (aN (.one (tv (.int .i64 (Bj dl xs))))):=by
 refine bC Tryz.func119 rfl Tryz.ntmps119 rfl aA rfl fun N w c0 h0=>?_
 refine sq ?_;refine rl ?_;refine o1 ?_;refine nl ?_;refine sq ?_;refine sq ?_;refine rl ?_;(iterate 3 refine o1 ?_);refine nl ?_;refine bl ?_
 refine lp (γ:=Nat) (fun k=>bS [(0,.one (.t (fM xs))),(1,.one (.t (.f fd fst caps))),(7,.one (tv (.int .i64 ((xs.length:Nat):Int)))),(8,.one (tv (.int .i64 ((k:Nat):Int))))]) (fun k=>[].map some) (fun k=>k≤xs.length∧k≤sT dl xs) (fun k=>xs.length-k) 0 (⟨Nat.zero_le _,Nat.zero_le _⟩) (aG h0 [] _ _ (by decide) ⟨rfl,rfl,rfl,rfl,trivial⟩ rfl) fun k hk=>?_
 refine sq ?_;refine rl ?_;refine o1 ?_;refine nl ?_;refine sq ?_;refine bP rfl (fun h1=>?_) (fun h1=>?_)
 ·refine sk ?_;refine sq ?_;refine bl ?_;refine sq ?_;refine rl ?_;refine o1 ?_;refine o1 ?_;refine nl ?_;refine sq ?_;refine rl ?_;(iterate 4 refine o1 ?_)
  refine cW (bV (bX xs (k))) (aP (f:=bV) (z:=8) (o:=0) cV (fA (by omega)) (Nat.le_of_ble_eq_true rfl) rfl) ?_
  refine ce 0 [.agg ((bV (bX xs (k))).map .t)] rfl (hd (bX xs (k)) (iR (by omega))) hok ⟨rfl,rfl⟩ ?_
  refine nl ?_;refine lL rfl (fun h2=>?_) (fun h2=>?_)
  ·refine sq ?_;refine rl ?_;refine o1 ?_;refine o1 ?_;refine nl ?_;refine rt ?_;have hx9:=(rN hk.2 (by omega)).1 h2
   exact en (.inl rfl) rfl (aO (bL _)) (by decide) (fun _=>trivial) (congrArg (fun z=>FV.one (tv (.int .i64 z))) (by unfold Bj;rw[hx9,if_neg (by omega)]))
  refine sk ?_;refine rl ?_;refine o1 ?_;refine WL.cast (t:=18) (u':=.int .i64 ((k+1:Nat):Int)) rfl (aH (by omega)) ?_
  refine o1 ?_;refine nl ?_;exact⟨k+1,by omega,⟨by omega,(rN hk.2 (by omega)).2 h2⟩,aG h0 [] _ _ (by decide) ⟨rfl,rfl,rfl,rfl,trivial⟩ rfl⟩
 refine ex ?_;refine sq ?_;refine rl ?_;refine o1 ?_;refine nl ?_;refine rt ?_;have hx9:=Dy (dl:=dl) xs
 exact en (.inl rfl) rfl (aO (bL _)) (by decide) (fun _=>trivial) (congrArg (fun z=>FV.one (tv (.int .i64 z))) (by unfold Bj;rw[if_pos (by omega)]))
theorem KM {xs:List (Fr4×Fr4)}{dl:(Fr4×Fr4)→Bool}{fd:FuncId}{fst caps:List Tr}(hok:CallOk Tryz.prog fd) (hd:∀x∈xs,aE true Tryz.prog fd [] (cP fst++[.agg ((bV x).map .t)]++cP caps) (aN (.one (tv (.bool (dl x)))))) (hl:xs.length≤1073741823):aE true Tryz.prog 77 [] [.one (.t (fM xs)),.one (.t (.f fd fst caps))] (aN (.one (tv (.bool (xs.any dl))))):=by
 refine bC Tryz.func77 rfl Tryz.ntmps77 rfl aA rfl fun N w c0 h0=>?_
 refine sq ?_;refine rl ?_;refine o1 ?_;refine nl ?_;refine sq ?_;refine rl ?_;refine o1 ?_;refine o1 ?_
 refine ca (KL hok hd hl) TZ ⟨a1 rfl,a1 rfl,rfl⟩ (.one (tv (.int .i64 (Bj dl xs)))) ?_;refine o1 ?_;refine o1 ?_;refine nl ?_;refine rt ?_
 exact en (.inl rfl) rfl (aO (bL _)) (by decide) (fun _=>trivial) (congrArg (fun z=>FV.one (tv (.bool z))) (Qf xs))
def gH (c:Fr4) (y:Fr4×Fr4):Bool:= !(bD y.1.s y.1.x y.1.t y.1.y)||(!(bD y.2.s y.2.x y.2.t y.2.y)||(decide (y.2.q.num.sign<0)|| decide (0<(y.2.q-c.q*abv y.1.q).num.sign)))
def fT (c:Fr4) (bk fw:Int):Bool:= !(bD c.s c.x c.t c.y)||(decide (c.q.num.sign<0)||(decide (0<(c.q-((1:Int):Rat)).num.sign)||(decide (bk<0)||(decide (3<bk)||(decide (fw<0)|| decide (40<fw))))))
def cY (c:Fr4) (bk fw:Int) (ys:List (Fr4×Fr4)):Int:=if fT c bk fw || ys.any (gH c)then 2 else if decide ((40:Int)<(ys.length:Int))then 3 else 0
theorem QW {c:Fr4}{bk fw:Int}{y:Fr4×Fr4}(hc:c.ok) (hy:y.1.ok∧y.2.ok) (hs:Sz 68719476736 (c.q*abv y.1.q)):aE true Tryz.prog 78 [] [.agg ((bV y).map .t),.one (.t (.p false 28 [.v (.bool c.s),sU false c.x,.v (.bool c.t),sU false c.y,.v (.int .i64 bk),.v (.int .i64 fw)]))] (aN (.one (tv (.bool (gH c y))))):=by
 refine bC Tryz.func78 rfl Tryz.ntmps78 rfl aA rfl fun N w c0 h0=>?_
 refine WP.sub (pJ (i:=1) rfl rfl) ?_;refine sq ?_;refine rl ?_;refine bx 0 ?_;refine o1 ?_;refine nl ?_;refine sq ?_;refine rd [0] (fun i=>[25].contains i) mixed ?_
 refine dv 0 ?_;refine aI 1 ?_;refine aF 2 rfl (vU (⟨hy.1,rfl⟩:Qn y.1 y.1.q).1) Kh ⟨aB rfl,rfl⟩ (.one (tv (.bool (bD y.1.s y.1.x y.1.t y.1.y)))) ?_
 refine WD.splitb (t:=6) rfl (fun h1=>?_) (fun h1=>?_)
 ·refine df 3 ?_;refine df 4 ?_;refine dv 5 ?_;refine aI 6 ?_
  refine aF 7 rfl (vU (⟨hy.2,rfl⟩:Qn y.2 y.2.q).1) Kh ⟨aB rfl,rfl⟩ (.one (tv (.bool (bD y.2.s y.2.x y.2.t y.2.y)))) ?_;refine WD.splitb (t:=11) rfl (fun h2=>?_) (fun h2=>?_)
  ·refine df 8 ?_;refine df 9 ?_;refine df 10 ?_;refine dv 11 ?_;refine aI 12 ?_
   refine aF 13 rfl (fZ (⟨hy.2,rfl⟩:Qn y.2 y.2.q)) kL ⟨aB rfl,rfl⟩ (.one (tv (.int .i64 y.2.q.num.sign))) ?_;refine df 14 ?_;refine df 15 ?_;refine df 16 ?_
   refine WD.split (t:=20) rfl rfl (fun h3=>?_) (fun h3=>?_)
   ·refine aC 17 ?_;refine aC 18 ?_;refine aC 19 ?_;refine aC 20 ?_;refine aC 21 ?_;refine aC 22 ?_;refine aC 23 ?_;refine df 24 ?_
    refine cR 25 (by kernel_rfl) rfl rfl aA rfl (by trivial) ?_ (fun h=>by first | rfl | cases h)
    refine aJ ?_;refine rt ?_
    exact en (.inl rfl) rfl (aO (bL _)) (by decide) (fun _=>trivial) (congrArg (fun z=>FV.one (tv (.bool z))) (by simp only[gH,h1,h2,decide_eq_true h3,Bool.not_true,Bool.not_false,Bool.or_true,Bool.true_or,Bool.false_or,Bool.or_false,Bool.false_eq_true,if_true,if_false,ite_true,ite_false,Bool.and_true,Bool.true_and,Bool.false_and,Bool.and_false]))
   refine dv 17 ?_;refine aI 18 ?_;refine cM 19 ([.v (.bool c.s),sU false c.x,.v (.bool c.t),sU false c.y,.v (.int .i64 bk),.v (.int .i64 fw)]) rfl ?_;refine aI 20 ?_
   refine aF 21 rfl (Fl (b:=y.2) (⟨hc,rfl⟩:Qn c c.q) (⟨hy.1,rfl⟩:Qn y.1 y.1.q)) AJ ⟨aB rfl,aB rfl,rfl⟩ (qF (.of (c.q*abv y.1.q))) ?_
   refine aF 22 rfl (Aa (⟨hy.2,rfl⟩:Qn y.2 y.2.q) (Qn.of (p:=(c.q*abv y.1.q)) hs)) Fy ⟨aB rfl,aB rfl,rfl⟩ (.one (tv (.int .i64 (y.2.q-(c.q*abv y.1.q)).num.sign))) ?_
   refine df 23 ?_;refine df 24 ?_;refine cR 25 (by kernel_rfl) rfl rfl aA rfl (by trivial) ?_ (fun h=>by first | rfl | cases h)
   refine aJ ?_;refine rt ?_
   exact en (.inl rfl) rfl (aO (bL _)) (by decide) (fun _=>trivial) (congrArg (fun z=>FV.one (tv (.bool z))) (by simp only[gH,h1,h2,decide_eq_false h3,Bool.not_true,Bool.not_false,Bool.or_true,Bool.true_or,Bool.false_or,Bool.or_false,Bool.false_eq_true,if_true,if_false,ite_true,ite_false,Bool.and_true,Bool.true_and,Bool.false_and,Bool.and_false]))
  refine df 8 ?_;refine df 9 ?_;refine df 10 ?_;refine aC 11 ?_;refine aC 12 ?_;refine aC 13 ?_;refine aC 14 ?_;refine df 15 ?_;refine df 16 ?_;refine aC 17 ?_;refine aC 18 ?_
  refine aC 19 ?_;refine aC 20 ?_;refine aC 21 ?_;refine aC 22 ?_;refine aC 23 ?_;refine df 24 ?_
  refine cR 25 (by kernel_rfl) rfl rfl aA rfl (by trivial) ?_ (fun h=>by first | rfl | cases h)
  refine aJ ?_;refine rt ?_
  exact en (.inl rfl) rfl (aO (bL _)) (by decide) (fun _=>trivial) (congrArg (fun z=>FV.one (tv (.bool z))) (by simp only[gH,h1,h2,Bool.not_true,Bool.not_false,Bool.or_true,Bool.true_or,Bool.false_or,Bool.or_false,Bool.false_eq_true,if_true,if_false,ite_true,ite_false,Bool.and_true,Bool.true_and,Bool.false_and,Bool.and_false]))
 refine df 3 ?_;refine df 4 ?_;refine aC 5 ?_;refine aC 6 ?_;refine aC 7 ?_;refine aC 8 ?_;refine df 9 ?_;refine df 10 ?_;refine aC 11 ?_;refine aC 12 ?_;refine aC 13 ?_
 refine aC 14 ?_;refine df 15 ?_;refine df 16 ?_;refine aC 17 ?_;refine aC 18 ?_;refine aC 19 ?_;refine aC 20 ?_;refine aC 21 ?_;refine aC 22 ?_;refine aC 23 ?_;refine df 24 ?_
 refine cR 25 (by kernel_rfl) rfl rfl aA rfl (by trivial) ?_ (fun h=>by first | rfl | cases h)
 refine aJ ?_;refine rt ?_
 exact en (.inl rfl) rfl (aO (bL _)) (by decide) (fun _=>trivial) (congrArg (fun z=>FV.one (tv (.bool z))) (by simp only[gH,h1,Bool.not_true,Bool.not_false,Bool.or_true,Bool.true_or,Bool.false_or,Bool.or_false,Bool.false_eq_true,if_true,if_false,ite_true,ite_false,Bool.and_true,Bool.true_and,Bool.false_and,Bool.and_false]))
theorem Je {c:Fr4}{bk fw:Int}{ys:List (Fr4×Fr4)}(hc:c.ok) (hy:∀y∈ys,y.1.ok∧y.2.ok) (hs:∀y∈ys,Sz 68719476736 (c.q*abv y.1.q)) (hl:ys.length≤1073741823):aE true Tryz.prog 35 [] [.agg ((c.tr false++[.v (.int .i64 bk),.v (.int .i64 fw)]:List Tr).map .t),.one (.t (fM ys))] (aN (.one (tv (.int .i64 (cY c bk fw ys))))):=by
 refine bC Tryz.func35 rfl Tryz.ntmps35 rfl aA rfl fun N w c0 h0=>?_
 have hs1:Sz 68719476736 ((1:Int):Rat):=(kX (z:=1) (by omega) (by omega)).mono (by omega)
 refine sq ?_;refine rl ?_;refine bx 0 ?_
 refine WL.sub (xB (i:=2) (k:=0) (t:=28) (l:=[.v (.bool c.s),sU false c.x,.v (.bool c.t),sU false c.y,.v (.int .i64 bk),.v (.int .i64 fw)]) rfl rfl rfl (.one .sl)) ?_;refine o1 ?_
 refine nl ?_;refine sq ?_;refine rl ?_;refine o1 ?_;refine o1 ?_
 refine ca (KM (fst:=[]) (caps:=[.p false 28 [.v (.bool c.s),sU false c.x,.v (.bool c.t),sU false c.y,.v (.int .i64 bk),.v (.int .i64 fw)]]) YO (fun x hx=>QW (bk:=bk) (fw:=fw) hc (hy x hx) (hs x hx)) hl) YN ⟨a1 rfl,a1 rfl,rfl⟩ (.one (tv (.bool (ys.any (gH c))))) ?_
 refine o1 ?_;refine nl ?_;refine sq ?_;refine bl ?_;refine sq ?_;refine WP.sub (pJ (i:=2) rfl rfl) ?_;refine rd [] (fun i=>[].contains i) mixed ?_
 refine dv 0 ?_;refine cM 1 ([.v (.bool c.s),sU false c.x,.v (.bool c.t),sU false c.y]) rfl ?_
 refine aF 2 rfl (vU (⟨hc,rfl⟩:Qn c c.q).1) Kh ⟨aB rfl,rfl⟩ (.one (tv (.bool (bD c.s c.x c.t c.y)))) ?_;refine WD.splitb (t:=12) rfl (fun h1=>?_) (fun h1=>?_)
 ·refine df 3 ?_;refine df 4 ?_;refine dv 5 ?_;refine cM 6 ([.v (.bool c.s),sU false c.x,.v (.bool c.t),sU false c.y]) rfl ?_
  refine aF 7 rfl (fZ (⟨hc,rfl⟩:Qn c c.q)) kL ⟨aB rfl,rfl⟩ (.one (tv (.int .i64 c.q.num.sign))) ?_;refine df 8 ?_;refine df 9 ?_;refine df 10 ?_
  refine WD.split (t:=20) rfl rfl (fun h2=>?_) (fun h2=>?_)
  ·refine aC 11 ?_;refine aC 12 ?_;refine aC 13 ?_;refine aC 14 ?_;refine aC 15 ?_;refine df 16 ?_;refine df 17 ?_;refine aC 18 ?_;refine aC 19 ?_;refine aC 20 ?_;refine df 21 ?_
   refine df 22 ?_;refine aC 23 ?_;refine aC 24 ?_;refine aC 25 ?_;refine df 26 ?_;refine df 27 ?_;refine aC 28 ?_;refine aC 29 ?_;refine aC 30 ?_;refine df 31 ?_;refine df 32 ?_
   refine aC 33 ?_;refine aC 34 ?_;refine aC 35 ?_;refine df 36 ?_;refine df 37 ?_;refine aC 38 ?_;refine df 39 ?_
   refine cR 40 (by kernel_rfl) rfl rfl aA rfl (by trivial) ?_ (fun h=>by first | rfl | cases h)
   refine aJ ?_;refine gL rfl ?_;refine sq ?_;refine rl ?_;refine o1 ?_;refine nl ?_;refine rt ?_
   exact en (.inl rfl) rfl (aO (bL _)) (by decide) (fun _=>trivial) (congrArg (fun z=>FV.one (tv (.int .i64 z))) (by simp only[cY,fT,h1,decide_eq_true h2,Bool.not_true,Bool.not_false,Bool.or_true,Bool.true_or,Bool.false_or,Bool.or_false,Bool.false_eq_true,if_true,if_false,ite_true,ite_false,Bool.and_true,Bool.true_and,Bool.false_and,Bool.and_false]))
  refine dv 11 ?_;refine cM 12 ([.v (.bool c.s),sU false c.x,.v (.bool c.t),sU false c.y]) rfl ?_
  refine aF 13 rfl (lW (z:=1) (by omega) (by omega)) yD ⟨a1 rfl,rfl⟩ (qF (.of ((1:Int):Rat))) ?_
  refine aF 14 rfl (Aa (⟨hc,rfl⟩:Qn c c.q) (Qn.of (p:=((1:Int):Rat)) hs1)) Fy ⟨aB rfl,aB rfl,rfl⟩ (.one (tv (.int .i64 (c.q-((1:Int):Rat)).num.sign))) ?_;refine df 15 ?_
  refine df 16 ?_;refine df 17 ?_;refine WD.split (t:=27) rfl rfl (fun h3=>?_) (fun h3=>?_)
  ·refine aC 18 ?_;refine aC 19 ?_;refine aC 20 ?_;refine df 21 ?_;refine df 22 ?_;refine aC 23 ?_;refine aC 24 ?_;refine aC 25 ?_;refine df 26 ?_;refine df 27 ?_;refine aC 28 ?_
   refine aC 29 ?_;refine aC 30 ?_;refine df 31 ?_;refine df 32 ?_;refine aC 33 ?_;refine aC 34 ?_;refine aC 35 ?_;refine df 36 ?_;refine df 37 ?_;refine aC 38 ?_;refine df 39 ?_
   refine cR 40 (by kernel_rfl) rfl rfl aA rfl (by trivial) ?_ (fun h=>by first | rfl | cases h)
   refine aJ ?_;refine gL rfl ?_;refine sq ?_;refine rl ?_;refine o1 ?_;refine nl ?_;refine rt ?_
   exact en (.inl rfl) rfl (aO (bL _)) (by decide) (fun _=>trivial) (congrArg (fun z=>FV.one (tv (.int .i64 z))) (by simp only[cY,fT,h1,decide_eq_false h2,decide_eq_true h3,Bool.not_true,Bool.not_false,Bool.or_true,Bool.true_or,Bool.false_or,Bool.or_false,Bool.false_eq_true,if_true,if_false,ite_true,ite_false,Bool.and_true,Bool.true_and,Bool.false_and,Bool.and_false]))
  refine dv 18 ?_;refine cM 19 ([.v (.int .i64 bk)]) rfl ?_;refine dv 20 ?_;refine df 21 ?_;refine df 22 ?_;refine WD.split (t:=32) rfl rfl (fun h4=>?_) (fun h4=>?_)
  ·refine aC 23 ?_;refine aC 24 ?_;refine aC 25 ?_;refine df 26 ?_;refine df 27 ?_;refine aC 28 ?_;refine aC 29 ?_;refine aC 30 ?_;refine df 31 ?_;refine df 32 ?_
   refine aC 33 ?_;refine aC 34 ?_;refine aC 35 ?_;refine df 36 ?_;refine df 37 ?_;refine aC 38 ?_;refine df 39 ?_
   refine cR 40 (by kernel_rfl) rfl rfl aA rfl (by trivial) ?_ (fun h=>by first | rfl | cases h)
   refine aJ ?_;refine gL rfl ?_;refine sq ?_;refine rl ?_;refine o1 ?_;refine nl ?_;refine rt ?_
   exact en (.inl rfl) rfl (aO (bL _)) (by decide) (fun _=>trivial) (congrArg (fun z=>FV.one (tv (.int .i64 z))) (by simp only[cY,fT,h1,decide_eq_false h2,decide_eq_false h3,decide_eq_true h4,Bool.not_true,Bool.not_false,Bool.or_true,Bool.true_or,Bool.false_or,Bool.or_false,Bool.false_eq_true,if_true,if_false,ite_true,ite_false,Bool.and_true,Bool.true_and,Bool.false_and,Bool.and_false]))
  refine dv 23 ?_;refine cM 24 ([.v (.int .i64 bk)]) rfl ?_;refine dv 25 ?_;refine df 26 ?_;refine df 27 ?_;refine WD.split (t:=37) rfl rfl (fun h5=>?_) (fun h5=>?_)
  ·refine aC 28 ?_;refine aC 29 ?_;refine aC 30 ?_;refine df 31 ?_;refine df 32 ?_;refine aC 33 ?_;refine aC 34 ?_;refine aC 35 ?_;refine df 36 ?_;refine df 37 ?_
   refine aC 38 ?_;refine df 39 ?_;refine cR 40 (by kernel_rfl) rfl rfl aA rfl (by trivial) ?_ (fun h=>by first | rfl | cases h)
   refine aJ ?_;refine gL rfl ?_;refine sq ?_;refine rl ?_;refine o1 ?_;refine nl ?_;refine rt ?_
   exact en (.inl rfl) rfl (aO (bL _)) (by decide) (fun _=>trivial) (congrArg (fun z=>FV.one (tv (.int .i64 z))) (by simp only[cY,fT,h1,decide_eq_false h2,decide_eq_false h3,decide_eq_false h4,decide_eq_true h5,Bool.not_true,Bool.not_false,Bool.or_true,Bool.true_or,Bool.false_or,Bool.or_false,Bool.false_eq_true,if_true,if_false,ite_true,ite_false,Bool.and_true,Bool.true_and,Bool.false_and,Bool.and_false]))
  refine dv 28 ?_;refine cM 29 ([.v (.int .i64 fw)]) rfl ?_;refine dv 30 ?_;refine df 31 ?_;refine df 32 ?_;refine WD.split (t:=42) rfl rfl (fun h6=>?_) (fun h6=>?_)
  ·refine aC 33 ?_;refine aC 34 ?_;refine aC 35 ?_;refine df 36 ?_;refine df 37 ?_;refine aC 38 ?_;refine df 39 ?_
   refine cR 40 (by kernel_rfl) rfl rfl aA rfl (by trivial) ?_ (fun h=>by first | rfl | cases h)
   refine aJ ?_;refine gL rfl ?_;refine sq ?_;refine rl ?_;refine o1 ?_;refine nl ?_;refine rt ?_
   exact en (.inl rfl) rfl (aO (bL _)) (by decide) (fun _=>trivial) (congrArg (fun z=>FV.one (tv (.int .i64 z))) (by simp only[cY,fT,h1,decide_eq_false h2,decide_eq_false h3,decide_eq_false h4,decide_eq_false h5,decide_eq_true h6,Bool.not_true,Bool.not_false,Bool.or_true,Bool.true_or,Bool.false_or,Bool.or_false,Bool.false_eq_true,if_true,if_false,ite_true,ite_false,Bool.and_true,Bool.true_and,Bool.false_and,Bool.and_false]))
  refine dv 33 ?_;refine cM 34 ([.v (.int .i64 fw)]) rfl ?_;refine dv 35 ?_;refine df 36 ?_;refine df 37 ?_;refine WD.split (t:=47) rfl rfl (fun h7=>?_) (fun h7=>?_)
  ·refine aC 38 ?_;refine df 39 ?_;refine cR 40 (by kernel_rfl) rfl rfl aA rfl (by trivial) ?_ (fun h=>by first | rfl | cases h)
   refine aJ ?_;refine gL rfl ?_;refine sq ?_;refine rl ?_;refine o1 ?_;refine nl ?_;refine rt ?_
   exact en (.inl rfl) rfl (aO (bL _)) (by decide) (fun _=>trivial) (congrArg (fun z=>FV.one (tv (.int .i64 z))) (by simp only[cY,fT,h1,decide_eq_false h2,decide_eq_false h3,decide_eq_false h4,decide_eq_false h5,decide_eq_false h6,decide_eq_true h7,Bool.not_true,Bool.not_false,Bool.or_true,Bool.true_or,Bool.false_or,Bool.or_false,Bool.false_eq_true,if_true,if_false,ite_true,ite_false,Bool.and_true,Bool.true_and,Bool.false_and,Bool.and_false]))
  refine dv 38 ?_;refine df 39 ?_;refine cR 40 (by kernel_rfl) rfl rfl aA rfl (by trivial) ?_ (fun h=>by first | rfl | cases h)
  refine aJ ?_;refine lL rfl (fun h8=>?_) (fun h8=>?_)
  ·refine sq ?_;refine rl ?_;refine o1 ?_;refine nl ?_;refine rt ?_
   exact en (.inl rfl) rfl (aO (bL _)) (by decide) (fun _=>trivial) (congrArg (fun z=>FV.one (tv (.int .i64 z))) (by simp only[cY,fT,h1,decide_eq_false h2,decide_eq_false h3,decide_eq_false h4,decide_eq_false h5,decide_eq_false h6,decide_eq_false h7,h8,Bool.not_true,Bool.not_false,Bool.or_true,Bool.true_or,Bool.false_or,Bool.or_false,Bool.false_eq_true,if_true,if_false,ite_true,ite_false,Bool.and_true,Bool.true_and,Bool.false_and,Bool.and_false]))
  refine sq ?_;refine rl ?_;(iterate 4 refine o1 ?_);refine nl ?_;refine bP rfl (fun h9=>?_) (fun h9=>?_)
  ·refine sq ?_;refine rl ?_;refine o1 ?_;refine nl ?_;refine rt ?_
   exact en (.inl rfl) rfl (aO (bL _)) (by decide) (fun _=>trivial) (congrArg (fun z=>FV.one (tv (.int .i64 z))) (by simp only[cY,fT,h1,decide_eq_false h2,decide_eq_false h3,decide_eq_false h4,decide_eq_false h5,decide_eq_false h6,decide_eq_false h7,h8,decide_eq_true h9,Bool.not_true,Bool.not_false,Bool.or_true,Bool.true_or,Bool.false_or,Bool.or_false,Bool.false_eq_true,if_true,if_false,ite_true,ite_false,Bool.and_true,Bool.true_and,Bool.false_and,Bool.and_false]))
  refine sk ?_;refine sq ?_;refine rl ?_;refine o1 ?_;refine nl ?_;refine rt ?_
  exact en (.inl rfl) rfl (aO (bL _)) (by decide) (fun _=>trivial) (congrArg (fun z=>FV.one (tv (.int .i64 z))) (by simp only[cY,fT,h1,decide_eq_false h2,decide_eq_false h3,decide_eq_false h4,decide_eq_false h5,decide_eq_false h6,decide_eq_false h7,h8,decide_eq_false h9,Bool.not_true,Bool.not_false,Bool.or_true,Bool.true_or,Bool.false_or,Bool.or_false,Bool.false_eq_true,if_true,if_false,ite_true,ite_false,Bool.and_true,Bool.true_and,Bool.false_and,Bool.and_false]))
 refine df 3 ?_;refine df 4 ?_;refine aC 5 ?_;refine aC 6 ?_;refine aC 7 ?_;refine aC 8 ?_;refine df 9 ?_;refine df 10 ?_;refine aC 11 ?_;refine aC 12 ?_;refine aC 13 ?_
 refine aC 14 ?_;refine aC 15 ?_;refine df 16 ?_;refine df 17 ?_;refine aC 18 ?_;refine aC 19 ?_;refine aC 20 ?_;refine df 21 ?_;refine df 22 ?_;refine aC 23 ?_;refine aC 24 ?_
 refine aC 25 ?_;refine df 26 ?_;refine df 27 ?_;refine aC 28 ?_;refine aC 29 ?_;refine aC 30 ?_;refine df 31 ?_;refine df 32 ?_;refine aC 33 ?_;refine aC 34 ?_;refine aC 35 ?_
 refine df 36 ?_;refine df 37 ?_;refine aC 38 ?_;refine df 39 ?_;refine cR 40 (by kernel_rfl) rfl rfl aA rfl (by trivial) ?_ (fun h=>by first | rfl | cases h)
 refine aJ ?_;refine gL rfl ?_;refine sq ?_;refine rl ?_;refine o1 ?_;refine nl ?_;refine rt ?_
 exact en (.inl rfl) rfl (aO (bL _)) (by decide) (fun _=>trivial) (congrArg (fun z=>FV.one (tv (.int .i64 z))) (by simp only[cY,fT,h1,Bool.not_true,Bool.not_false,Bool.or_true,Bool.true_or,Bool.false_or,Bool.or_false,Bool.false_eq_true,if_true,if_false,ite_true,ite_false,Bool.and_true,Bool.true_and,Bool.false_and,Bool.and_false]))
theorem QX {M:Mx}{N y:Nat}{rs:List Rw}{us:List Us}{L:Tr}(hy:y<rs.length) (hyN:y<N) (hr:Sz 400 (M.ring y)) (hm:Sz 400 (aD rs y).m) (hu:Sz 400 (aD rs y).u) (hl:rs.length≤1073741823) (hN:N≤1073741823):aE false Tryz.prog 124 [⟨92,0,dD M N (.t (dI true false rs)) (.t (cN true false us)) (.t L)⟩] [.one (.pt 0 0),.one (tv (.int .i64 ((y:Nat):Int)))] (Rt [⟨92,0,dD M N (.t (dI true false rs)) (.t (cN true false us)) (.t L)⟩] (qF (.of (abv ((aD rs y).m-(M.ring y+(aD rs y).u)))))):=by
 refine xQ Tryz.func124 rfl Tryz.ntmps124 rfl aA rfl fun N9 M9 w9 c0 h0=>?_
 refine WP.sub (tZ (j:=0) (key:=1) (p:=0) (e:=66) (z:=24) (n:=rs.length) (trs:=rs.flatMap (cE false)) (l':=dD M N (.sl 1 0 rs.length) (.t (cN true false us)) (.t L)) rfl rfl rfl rfl rfl) ?_
 have hyl:(yrs M N).length=N:=cK M N
 have hs1:Sz 68719476736 (M.ring y+(aD rs y).u):=(gY hr hu).mono (by omega)
 have hs2:Sz 68719476736 ((aD rs y).m-(M.ring y+(aD rs y).u)):=(rC hm (gY hr hu)).mono (by omega)
 have hr1:Sz 68719476736 (M.ring y):=hr.mono (by omega)
 have hm1:Sz 68719476736 (aD rs y).m:=hm.mono (by omega)
 have hu1:Sz 68719476736 (aD rs y).u:=hu.mono (by omega)
 refine sq ?_;refine rl ?_;refine al 2 ?_;refine nl ?_;refine sq ?_;refine rd [0,1,2] (fun i=>[29].contains i) mixed ?_
 refine dv 0 ?_;refine dv 1 ?_;refine dv 2 ?_;refine dv 3 ?_;refine aI 4 ?_;refine dv 5 ?_;refine dv 6 ?_;refine dv 7 ?_
 refine oO 8 (fV (f:=(cE false)) (z:=24) (o:=4) (us:=(Fr4.of (aD rs (y)).m).tr false) (dX false) (iZ (by omega)) (Nat.le_of_ble_eq_true rfl) rfl) ?_
 refine dv 9 ?_;refine dv 10 ?_;refine dv 11 ?_;refine aI 12 ?_;refine dv 13 ?_;refine dv 14 ?_;refine dv 15 ?_
 refine cM 16 ((Fr4.of (M.ring (y))).tr false) (aP (f:=bV) (z:=8) (o:=4) cV (eB (by omega)) (Nat.le_of_ble_eq_true rfl) rfl) ?_
 refine dv 17 ?_;refine dv 18 ?_;refine dv 19 ?_;refine dv 20 ?_;refine aI 21 ?_;refine dv 22 ?_;refine dv 23 ?_;refine dv 24 ?_
 refine oO 25 (fV (f:=(cE false)) (z:=24) (o:=8) (us:=(Fr4.of (aD rs (y)).u).tr false) (dX false) (iZ (by omega)) (Nat.le_of_ble_eq_true rfl) rfl) ?_
 refine aF 26 rfl (qK (Qn.of (p:=(M.ring (y))) (by assumption)) (Qn.of (p:=(aD rs (y)).u) (by assumption))) tJ ⟨aB rfl,aB rfl,rfl⟩ (qF (.of ((M.ring (y))+(aD rs (y)).u))) ?_
 refine aF 27 rfl (mZ (Qn.of (p:=(aD rs (y)).m) (by assumption)) (Qn.of (p:=((M.ring (y))+(aD rs (y)).u)) (by assumption))) pV ⟨aB rfl,aB rfl,rfl⟩ (qF (.of ((aD rs (y)).m-((M.ring (y))+(aD rs (y)).u)))) ?_
 refine aF 28 rfl (oR (Qn.of (p:=((aD rs (y)).m-((M.ring (y))+(aD rs (y)).u))) (by assumption))) Bx ⟨aB rfl,rfl⟩ (qF (.of (abv ((aD rs (y)).m-((M.ring (y))+(aD rs (y)).u))))) ?_
 refine dst 29 ?_;refine aJ ?_;refine rt ?_
 refine xC (jQ (j:=0) (k:=1) (p:=0) (e:=66) (z:=24) (n:=rs.length) (trs:=rs.flatMap (cE false)) (l':=dD M N (.t (.s true 66 24 (rs.length) (rs.flatMap (cE false)))) (.t (cN true false us)) (.t L)) rfl rfl rfl (rfl) rfl (cC _ _ (dY _ _)) (dY _ _) rfl) ?_
 exact oP <| kU (lent':=[⟨92,0,dD M N (.t (dI true false rs)) (.t (cN true false us)) (.t L)⟩]) (.inl rfl) rfl (aO (.agg (.cons (.id rfl) (.cons (.id rfl) (.cons (.id rfl) (.cons (.id rfl) .nil)))))) (by decide) (fun _ h=>by cases h) ⟨⟨rfl,rfl⟩,trivial⟩ ⟨rfl,trivial⟩ ⟨rfl,trivial⟩ (fun h=>by cases h) ⟨rfl,rfl⟩
theorem KN {M:Mx}{N y:Nat}{rs:List Rw}{us:List Us}{o1:Lt}(ho1:refCs 2 o1.l=true) (hy:y<rs.length) (hyN:y<N) (hr:Sz 400 (M.ring y)) (hm:Sz 400 (aD rs y).m) (hu:Sz 400 (aD rs y).u) (hl:rs.length≤1073741823) (hN:N≤1073741823):aE false Tryz.prog 124 [⟨92,0,dD M N (.t (dI true false rs)) (.t (cN true false us)) (.pt 1 0)⟩,o1] [.one (.pt 0 0),.one (tv (.int .i64 ((y:Nat):Int)))] (Rt [⟨92,0,dD M N (.t (dI true false rs)) (.t (cN true false us)) (.pt 1 0)⟩,o1] (qF (.of (abv ((aD rs y).m-(M.ring y+(aD rs y).u)))))):=by
 refine xQ Tryz.func124 rfl Tryz.ntmps124 rfl aA rfl fun N9 M9 w9 c0 h0=>?_
 refine WP.sub (tZ (j:=0) (key:=2) (p:=0) (e:=66) (z:=24) (n:=rs.length) (trs:=rs.flatMap (cE false)) (l':=dD M N (.sl 2 0 rs.length) (.t (cN true false us)) (.pt 1 0)) rfl rfl rfl rfl rfl) ?_
 have hyl:(yrs M N).length=N:=cK M N
 have hs1:Sz 68719476736 (M.ring y+(aD rs y).u):=(gY hr hu).mono (by omega)
 have hs2:Sz 68719476736 ((aD rs y).m-(M.ring y+(aD rs y).u)):=(rC hm (gY hr hu)).mono (by omega)
 have hr1:Sz 68719476736 (M.ring y):=hr.mono (by omega)
 have hm1:Sz 68719476736 (aD rs y).m:=hm.mono (by omega)
 have hu1:Sz 68719476736 (aD rs y).u:=hu.mono (by omega)
 refine sq ?_;refine rl ?_;refine al 3 ?_;refine nl ?_;refine sq ?_;refine rd [0,2,3] (fun i=>[29].contains i) mixed ?_
 refine dv 0 ?_;refine dv 1 ?_;refine dv 2 ?_;refine dv 3 ?_;refine aI 4 ?_;refine dv 5 ?_;refine dv 6 ?_;refine dv 7 ?_
 refine oO 8 (fV (f:=(cE false)) (z:=24) (o:=4) (us:=(Fr4.of (aD rs (y)).m).tr false) (dX false) (iZ (by omega)) (Nat.le_of_ble_eq_true rfl) rfl) ?_
 refine dv 9 ?_;refine dv 10 ?_;refine dv 11 ?_;refine aI 12 ?_;refine dv 13 ?_;refine dv 14 ?_;refine dv 15 ?_
 refine cM 16 ((Fr4.of (M.ring (y))).tr false) (aP (f:=bV) (z:=8) (o:=4) cV (eB (by omega)) (Nat.le_of_ble_eq_true rfl) rfl) ?_
 refine dv 17 ?_;refine dv 18 ?_;refine dv 19 ?_;refine dv 20 ?_;refine aI 21 ?_;refine dv 22 ?_;refine dv 23 ?_;refine dv 24 ?_
 refine oO 25 (fV (f:=(cE false)) (z:=24) (o:=8) (us:=(Fr4.of (aD rs (y)).u).tr false) (dX false) (iZ (by omega)) (Nat.le_of_ble_eq_true rfl) rfl) ?_
 refine aF 26 rfl (qK (Qn.of (p:=(M.ring (y))) (by assumption)) (Qn.of (p:=(aD rs (y)).u) (by assumption))) tJ ⟨aB rfl,aB rfl,rfl⟩ (qF (.of ((M.ring (y))+(aD rs (y)).u))) ?_
 refine aF 27 rfl (mZ (Qn.of (p:=(aD rs (y)).m) (by assumption)) (Qn.of (p:=((M.ring (y))+(aD rs (y)).u)) (by assumption))) pV ⟨aB rfl,aB rfl,rfl⟩ (qF (.of ((aD rs (y)).m-((M.ring (y))+(aD rs (y)).u)))) ?_
 refine aF 28 rfl (oR (Qn.of (p:=((aD rs (y)).m-((M.ring (y))+(aD rs (y)).u))) (by assumption))) Bx ⟨aB rfl,rfl⟩ (qF (.of (abv ((aD rs (y)).m-((M.ring (y))+(aD rs (y)).u))))) ?_
 refine dst 29 ?_;refine aJ ?_;refine rt ?_
 refine xC (jQ (j:=0) (k:=2) (p:=0) (e:=66) (z:=24) (n:=rs.length) (trs:=rs.flatMap (cE false)) (l':=dD M N (.t (.s true 66 24 (rs.length) (rs.flatMap (cE false)))) (.t (cN true false us)) (.pt 1 0)) rfl rfl rfl (rfl) rfl (cC _ _ (dY _ _)) (dY _ _) rfl) ?_
 exact oP <| kU (lent':=[⟨92,0,dD M N (.t (dI true false rs)) (.t (cN true false us)) (.pt 1 0)⟩,o1]) (.inl rfl) rfl (aO (.agg (.cons (.id rfl) (.cons (.id rfl) (.cons (.id rfl) (.cons (.id rfl) .nil)))))) (by decide) (fun _ h=>by cases h) ⟨⟨rfl,rfl⟩,⟨rfl,rfl⟩,trivial⟩ ⟨rfl,rfl,trivial⟩ ⟨rfl,ho1,trivial⟩ (fun h=>by cases h) ⟨rfl,rfl⟩
theorem UZ {M:Mx}{N y:Nat}{v:Int}{m:Rat}{rs:List Rw}{us:List Us}{L:Tr}(hy:y<rs.length) (hm:Sz 400 m) (hu:Sz 400 (aD rs y).u) (ht:Sz 400 (aD rs y).t) (hl:rs.length≤1073741823) (hlu:us.length≤1073741822):aE false Tryz.prog 125 [mS M N rs us L] [.one (.pt 0 0),.one (tv (.int .i64 v)),.one (tv (.int .i64 ((y:Nat):Int))),qF (.of m)] (Rt [mS M N (wY rs y m) (wZ rs us v y m) L] (.tup [])):=by
 refine xQ Tryz.func125 rfl Tryz.ntmps125 rfl aA rfl fun N9 M9 w9 c0 h0=>?_
 refine WP.sub (tZ (j:=0) (key:=1) (p:=0) (e:=66) (z:=24) (n:=rs.length) (trs:=rs.flatMap (cE false)) (l':=dD M N (.sl 1 0 rs.length) (.t (cN true false us)) (.t L)) rfl rfl rfl rfl rfl) ?_
 refine WP.sub (tZ (j:=0) (key:=2) (p:=1) (e:=46) (z:=14) (n:=us.length) (trs:=us.flatMap (dQ false)) (l':=dD M N (.sl 1 0 rs.length) (.sl 2 0 us.length) (.t L)) rfl rfl rfl rfl rfl) ?_
 have hm1:Sz 68719476736 m:=hm.mono (by omega)
 have hu1:Sz 68719476736 (aD rs y).u:=hu.mono (by omega)
 have ht1:Sz 68719476736 (aD rs y).t:=ht.mono (by omega)
 have hs1:Sz 68719476736 ((aD rs y).u+m):=(gY hu hm).mono (by omega)
 have hs2:Sz 68719476736 ((aD rs y).t-m):=(rC ht hm).mono (by omega)
 refine sq ?_;refine rl ?_;refine bx 3 ?_;refine nl ?_;refine sq ?_;refine sq ?_;refine rl ?_;refine ld ?_
 refine ca (fZ (Qn.of (p:=m) (by assumption))) kL ⟨aB rfl,rfl⟩ (.one (tv (.int .i64 m.num.sign))) ?_
 refine o1 ?_;refine nl ?_;refine bP rfl (fun h1=>?_) (fun h1=>?_)
 ·refine rt ?_
  refine xC (jQ (j:=0) (k:=1) (p:=0) (e:=66) (z:=24) (n:=rs.length) (trs:=rs.flatMap (cE false)) (l':=dD M N (.t (.s true 66 24 (rs.length) (rs.flatMap (cE false)))) (.sl 2 0 us.length) (.t L)) rfl rfl rfl (rfl) rfl (cC _ _ (dY _ _)) (dY _ _) rfl) ?_
  refine xC (jQ (j:=0) (k:=2) (p:=1) (e:=46) (z:=14) (n:=us.length) (trs:=us.flatMap (dQ false)) (l':=dD M N (.t (dI true false rs)) (.t (.s true 46 14 (us.length) (us.flatMap (dQ false)))) (.t L)) rfl rfl rfl (rfl) rfl (cC _ _ (kH _ _)) (kH _ _) rfl) ?_
  have hp0:¬0<m:=fun h9=>by have h8:=(mK m).2 h9;omega
  have e1:wY rs y m=rs:=if_neg hp0
  have e2:wZ rs us v y m=us:=if_neg hp0
  exact oP <| kU (lent':=[mS M N (wY rs y m) (wZ rs us v y m) L]) (.inl rfl) rfl (Hr) (by decide) (fun _ h=>by cases h) ⟨⟨rfl,rfl⟩,trivial⟩ ⟨by unfold mS;rw[e1,e2];rfl,trivial⟩ ⟨rfl,trivial⟩ (fun h=>by cases h) ⟨rfl,rfl⟩
 refine sk ?_;refine sq ?_;refine rl ?_;(iterate 4 refine o1 ?_);refine ld ?_;(iterate 3 refine o1 ?_);refine nl ?_;refine sq ?_;refine rd [0,1,3] (fun i=>[15].contains i) mixed ?_
 refine dv 0 ?_;refine dv 1 ?_;refine aI 2 ?_;refine dv 3 ?_;refine dv 4 ?_;refine dv 5 ?_
 refine oO 6 (fV (f:=(cE false)) (z:=24) (o:=12) (us:=(Fr4.of (aD rs (y)).t).tr false) (dX false) (iZ (by omega)) (Nat.le_of_ble_eq_true rfl) rfl) ?_
 refine dv 7 ?_;refine dv 8 ?_;refine dv 9 ?_
 refine oO 10 (fV (f:=(cE false)) (z:=24) (o:=12) (us:=(Fr4.of (aD rs (y)).t).tr false) (dX false) (iZ (by omega)) (Nat.le_of_ble_eq_true rfl) rfl) ?_
 refine aI 11 ?_;refine WO.two (i:=12) (j:=14) (by kernel_rfl) ?_ ?_
 ·refine cX 12 rfl (mZ (Qn.of (p:=(aD rs (y)).t) (by assumption)) (Qn.of (p:=m) (by assumption))) pV ⟨aB rfl,aB rfl,rfl⟩ (qF (.of ((aD rs (y)).t-m))) ?_
  refine df 13 ?_;refine eN (key:=4) 14 (by kernel_rfl) rfl rfl aA rfl ⟨rfl,rfl,rfl,trivial⟩ ?_
  refine dst 15 ?_;refine aJ ?_;refine sq ?_;refine rd [0,3,4] (fun i=>[].contains i) mixed ?_
  refine dv 0 ?_;refine dv 1 ?_;refine dv 2 ?_;refine dv 3 ?_;refine dv 4 ?_;refine aI 6 ?_;refine dv 8 ?_;refine aI 9 ?_
  refine WO.one (by kernel_rfl) (QI 5 (fV (f:=(cE false)) (z:=24) (o:=8) (us:=(Fr4.of (aD rs (y)).u).tr false) (dX false) (iZ (by omega)) (Nat.le_of_ble_eq_true rfl) rfl) ?_)
  refine aF 7 rfl (qK (Qn.of (p:=(aD rs (y)).u) (by assumption)) (Qn.of (p:=m) (by assumption))) tJ ⟨aB rfl,aB rfl,rfl⟩ (qF (.of ((aD rs (y)).u+m))) ?_
  refine dv 10 ?_;refine dv 11 ?_
  refine zQ 12 (lN (xs:=rs) (k:=y) (x:=(aD rs (y))) (f:=(cE false)) (z:=24) (o:=8) (x':=(⟨(aD rs (y)).l,(aD rs (y)).m,((aD rs (y)).u+m),(aD rs (y)).t,(aD rs (y)).e,(aD rs (y)).c⟩:Rw)) (us:=(Fr4.of ((aD rs (y)).u+m)).tr false) (dX false) (iZ (by omega)) (Nat.le_of_ble_eq_true rfl) rfl) (oS (xs:=rs) (k:=y) (f:=(cE false)) (z:=24) (o:=8) (us:=(Fr4.of ((aD rs (y)).u+m)).tr false) (dX false) (by omega) (Nat.le_of_ble_eq_true rfl)) ?_
  refine dv 13 ?_;refine dv 14 ?_
  refine zQ 15 (lN (xs:=(rs.set (y) (⟨(aD rs (y)).l,(aD rs (y)).m,((aD rs (y)).u+m),(aD rs (y)).t,(aD rs (y)).e,(aD rs (y)).c⟩:Rw))) (k:=y) (x:=(⟨(aD rs (y)).l,(aD rs (y)).m,((aD rs (y)).u+m),(aD rs (y)).t,(aD rs (y)).e,(aD rs (y)).c⟩:Rw)) (f:=(cE false)) (z:=24) (o:=12) (x':=(⟨(aD rs (y)).l,(aD rs (y)).m,((aD rs (y)).u+m),((aD rs (y)).t-m),(aD rs (y)).e,(aD rs (y)).c⟩:Rw)) (us:=(Fr4.of ((aD rs (y)).t-m)).tr false) (dX false) (List.getElem?_set_self (by omega)) (Nat.le_of_ble_eq_true rfl) rfl) (oS (xs:=(rs.set (y) (⟨(aD rs (y)).l,(aD rs (y)).m,((aD rs (y)).u+m),(aD rs (y)).t,(aD rs (y)).e,(aD rs (y)).c⟩:Rw))) (k:=y) (f:=(cE false)) (z:=24) (o:=12) (us:=(Fr4.of ((aD rs (y)).t-m)).tr false) (dX false) (by simp only[List.length_set];omega) (Nat.le_of_ble_eq_true rfl)) ?_
  refine aJ ?_;refine rd [0,3,4] (fun i=>[12].contains i) mixed ?_
  refine dv 0 ?_;refine dv 1 ?_;refine dv 2 ?_;refine dv 3 ?_;refine dv 4 ?_;refine aI 5 ?_;refine aI 6 ?_
  refine eZ (key:=5) 7 (by kernel_rfl) rfl rfl aA rfl ⟨rfl,rfl,rfl,trivial⟩ ?_
  refine nU (j:=6) (n:=us.length) (l:=Sl us) 8 rfl aA rfl rfl rfl (.sl rfl (Sn _)) (.sl rfl rfl rfl) rfl rfl (by omega) (by omega) rfl ⟨rfl,rfl,rfl,trivial⟩ rfl (by kernel_rfl) rfl ?_
  refine cR 9 (by kernel_rfl) rfl rfl aA rfl (by trivial) ?_ (fun h=>by first | rfl | cases h)
  refine cR 10 (by kernel_rfl) rfl rfl aA rfl (by trivial) ?_ (fun h=>by first | rfl | cases h)
  refine df 11 ?_;refine dst 12 ?_;refine aJ ?_;have hp0:0<m:=(mK m).1 (by omega)
  have e1:wY rs y m=(rs.set y (⟨(aD rs y).l,(aD rs y).m,(aD rs y).u+m,(aD rs y).t-m,(aD rs y).e,(aD rs y).c⟩:Rw)):=if_pos hp0
  have e2:wZ rs us v y m=us++[(⟨v,(y:Int),m,(aD rs y).t,(aD rs y).t-m⟩:Us)]:=if_pos hp0
  have e3:((rs.set (y) (⟨(aD rs (y)).l,(aD rs (y)).m,((aD rs (y)).u+m),(aD rs (y)).t,(aD rs (y)).e,(aD rs (y)).c⟩:Rw)).set (y) (⟨(aD rs (y)).l,(aD rs (y)).m,((aD rs (y)).u+m),((aD rs (y)).t-m),(aD rs (y)).e,(aD rs (y)).c⟩:Rw))=(rs.set y (⟨(aD rs y).l,(aD rs y).m,(aD rs y).u+m,(aD rs y).t-m,(aD rs y).e,(aD rs y).c⟩:Rw)):=by rw[List.set_set]
  refine xC (jQ (j:=0) (k:=1) (p:=0) (e:=66) (z:=24) (n:=rs.length) (trs:=(rs.set y (⟨(aD rs y).l,(aD rs y).m,(aD rs y).u+m,(aD rs y).t-m,(aD rs y).e,(aD rs y).c⟩:Rw)).flatMap (cE false)) (l':=dD M N (.t (.s true 66 24 (rs.length) ((rs.set y (⟨(aD rs y).l,(aD rs y).m,(aD rs y).u+m,(aD rs y).t-m,(aD rs y).e,(aD rs y).c⟩:Rw)).flatMap (cE false)))) (.sl 6 0 (us.length+1)) (.t L)) rfl rfl rfl (congrArg (fun l:List Rw=>some (⟨66,24,(l.flatMap (cE false)).map .t⟩:Ob)) e3) rfl (cC _ _ (by rw[dY,List.length_set])) (by rw[dY,List.length_set]) rfl) ?_
  refine xC (jQ (j:=0) (k:=6) (p:=1) (e:=46) (z:=14) (n:=us.length+1) (trs:=(us++[(⟨v,(y:Int),m,(aD rs y).t,(aD rs y).t-m⟩:Us)]).flatMap (dQ false)) (l':=dD M N (.t (.s true 66 24 rs.length ((rs.set y (⟨(aD rs y).l,(aD rs y).m,(aD rs y).u+m,(aD rs y).t-m,(aD rs y).e,(aD rs y).c⟩:Rw)).flatMap (cE false)))) (.t (.s true 46 14 (us.length+1) ((us++[(⟨v,(y:Int),m,(aD rs y).t,(aD rs y).t-m⟩:Us)]).flatMap (dQ false)))) (.t L)) rfl rfl rfl (congrArg (fun l:List AV=>some (⟨46,14,l⟩:Ob)) (Oc us (⟨v,(y:Int),m,(aD rs y).t,(aD rs y).t-m⟩:Us))) rfl (cC _ _ (by rw[kH,List.length_append];rfl)) (by rw[kH,List.length_append];rfl) rfl) ?_
  exact oP <| kU (lent':=[mS M N (wY rs y m) (wZ rs us v y m) L]) (.inr rfl) rfl (Hr) (by decide) (fun _ h=>by cases h) ⟨⟨rfl,rfl⟩,trivial⟩ ⟨by unfold mS;rw[e1,e2,show dI true false (rs.set y (⟨(aD rs y).l,(aD rs y).m,(aD rs y).u+m,(aD rs y).t-m,(aD rs y).e,(aD rs y).c⟩:Rw))=.s true 66 24 rs.length ((rs.set y (⟨(aD rs y).l,(aD rs y).m,(aD rs y).u+m,(aD rs y).t-m,(aD rs y).e,(aD rs y).c⟩:Rw)).flatMap (cE false)) by rw[dI,List.length_set],show cN true false (us++[(⟨v,(y:Int),m,(aD rs y).t,(aD rs y).t-m⟩:Us)])=.s true 46 14 (us.length+1) ((us++[(⟨v,(y:Int),m,(aD rs y).t,(aD rs y).t-m⟩:Us)]).flatMap (dQ false)) by rw[cN,List.length_append];rfl];rfl,trivial⟩ ⟨rfl,trivial⟩ (fun h=>by cases h) ⟨rfl,rfl⟩
 refine bI (key:=4) 14 rfl rfl aA rfl ⟨rfl,rfl,rfl,trivial⟩ ?_
 refine aF 12 rfl (mZ (Qn.of (p:=(aD rs (y)).t) (by assumption)) (Qn.of (p:=m) (by assumption))) pV ⟨aB rfl,aB rfl,rfl⟩ (qF (.of ((aD rs (y)).t-m))) ?_
 refine df 13 ?_;refine dst 15 ?_;refine aJ ?_;refine sq ?_;refine rd [0,3,4] (fun i=>[].contains i) mixed ?_
 refine dv 0 ?_;refine dv 1 ?_;refine dv 2 ?_;refine dv 3 ?_;refine dv 4 ?_;refine aI 6 ?_;refine dv 8 ?_;refine aI 9 ?_
 refine WO.one (by kernel_rfl) (QI 5 (fV (f:=(cE false)) (z:=24) (o:=8) (us:=(Fr4.of (aD rs (y)).u).tr false) (dX false) (iZ (by omega)) (Nat.le_of_ble_eq_true rfl) rfl) ?_)
 refine aF 7 rfl (qK (Qn.of (p:=(aD rs (y)).u) (by assumption)) (Qn.of (p:=m) (by assumption))) tJ ⟨aB rfl,aB rfl,rfl⟩ (qF (.of ((aD rs (y)).u+m))) ?_
 refine dv 10 ?_;refine dv 11 ?_
 refine zQ 12 (lN (xs:=rs) (k:=y) (x:=(aD rs (y))) (f:=(cE false)) (z:=24) (o:=8) (x':=(⟨(aD rs (y)).l,(aD rs (y)).m,((aD rs (y)).u+m),(aD rs (y)).t,(aD rs (y)).e,(aD rs (y)).c⟩:Rw)) (us:=(Fr4.of ((aD rs (y)).u+m)).tr false) (dX false) (iZ (by omega)) (Nat.le_of_ble_eq_true rfl) rfl) (oS (xs:=rs) (k:=y) (f:=(cE false)) (z:=24) (o:=8) (us:=(Fr4.of ((aD rs (y)).u+m)).tr false) (dX false) (by omega) (Nat.le_of_ble_eq_true rfl)) ?_
 refine dv 13 ?_;refine dv 14 ?_
 refine zQ 15 (lN (xs:=(rs.set (y) (⟨(aD rs (y)).l,(aD rs (y)).m,((aD rs (y)).u+m),(aD rs (y)).t,(aD rs (y)).e,(aD rs (y)).c⟩:Rw))) (k:=y) (x:=(⟨(aD rs (y)).l,(aD rs (y)).m,((aD rs (y)).u+m),(aD rs (y)).t,(aD rs (y)).e,(aD rs (y)).c⟩:Rw)) (f:=(cE false)) (z:=24) (o:=12) (x':=(⟨(aD rs (y)).l,(aD rs (y)).m,((aD rs (y)).u+m),((aD rs (y)).t-m),(aD rs (y)).e,(aD rs (y)).c⟩:Rw)) (us:=(Fr4.of ((aD rs (y)).t-m)).tr false) (dX false) (List.getElem?_set_self (by omega)) (Nat.le_of_ble_eq_true rfl) rfl) (oS (xs:=(rs.set (y) (⟨(aD rs (y)).l,(aD rs (y)).m,((aD rs (y)).u+m),(aD rs (y)).t,(aD rs (y)).e,(aD rs (y)).c⟩:Rw))) (k:=y) (f:=(cE false)) (z:=24) (o:=12) (us:=(Fr4.of ((aD rs (y)).t-m)).tr false) (dX false) (by simp only[List.length_set];omega) (Nat.le_of_ble_eq_true rfl)) ?_
 refine aJ ?_;refine rd [0,3,4] (fun i=>[12].contains i) mixed ?_
 refine dv 0 ?_;refine dv 1 ?_;refine dv 2 ?_;refine dv 3 ?_;refine dv 4 ?_;refine aI 5 ?_;refine aI 6 ?_
 refine eZ (key:=5) 7 (by kernel_rfl) rfl rfl aA rfl ⟨rfl,rfl,rfl,trivial⟩ ?_
 refine nU (j:=6) (n:=us.length) (l:=Sl us) 8 rfl aA rfl rfl rfl (.sl rfl (Sn _)) (.sl rfl rfl rfl) rfl rfl (by omega) (by omega) rfl ⟨rfl,rfl,rfl,trivial⟩ rfl (by kernel_rfl) rfl ?_
 refine cR 9 (by kernel_rfl) rfl rfl aA rfl (by trivial) ?_ (fun h=>by first | rfl | cases h)
 refine cR 10 (by kernel_rfl) rfl rfl aA rfl (by trivial) ?_ (fun h=>by first | rfl | cases h)
 refine df 11 ?_;refine dst 12 ?_;refine aJ ?_;have hp0:0<m:=(mK m).1 (by omega)
 have e1:wY rs y m=(rs.set y (⟨(aD rs y).l,(aD rs y).m,(aD rs y).u+m,(aD rs y).t-m,(aD rs y).e,(aD rs y).c⟩:Rw)):=if_pos hp0
 have e2:wZ rs us v y m=us++[(⟨v,(y:Int),m,(aD rs y).t,(aD rs y).t-m⟩:Us)]:=if_pos hp0
 have e3:((rs.set (y) (⟨(aD rs (y)).l,(aD rs (y)).m,((aD rs (y)).u+m),(aD rs (y)).t,(aD rs (y)).e,(aD rs (y)).c⟩:Rw)).set (y) (⟨(aD rs (y)).l,(aD rs (y)).m,((aD rs (y)).u+m),((aD rs (y)).t-m),(aD rs (y)).e,(aD rs (y)).c⟩:Rw))=(rs.set y (⟨(aD rs y).l,(aD rs y).m,(aD rs y).u+m,(aD rs y).t-m,(aD rs y).e,(aD rs y).c⟩:Rw)):=by rw[List.set_set]
 refine xC (jQ (j:=0) (k:=1) (p:=0) (e:=66) (z:=24) (n:=rs.length) (trs:=(rs.set y (⟨(aD rs y).l,(aD rs y).m,(aD rs y).u+m,(aD rs y).t-m,(aD rs y).e,(aD rs y).c⟩:Rw)).flatMap (cE false)) (l':=dD M N (.t (.s true 66 24 (rs.length) ((rs.set y (⟨(aD rs y).l,(aD rs y).m,(aD rs y).u+m,(aD rs y).t-m,(aD rs y).e,(aD rs y).c⟩:Rw)).flatMap (cE false)))) (.sl 6 0 (us.length+1)) (.t L)) rfl rfl rfl (congrArg (fun l:List Rw=>some (⟨66,24,(l.flatMap (cE false)).map .t⟩:Ob)) e3) rfl (cC _ _ (by rw[dY,List.length_set])) (by rw[dY,List.length_set]) rfl) ?_
 refine xC (jQ (j:=0) (k:=6) (p:=1) (e:=46) (z:=14) (n:=us.length+1) (trs:=(us++[(⟨v,(y:Int),m,(aD rs y).t,(aD rs y).t-m⟩:Us)]).flatMap (dQ false)) (l':=dD M N (.t (.s true 66 24 rs.length ((rs.set y (⟨(aD rs y).l,(aD rs y).m,(aD rs y).u+m,(aD rs y).t-m,(aD rs y).e,(aD rs y).c⟩:Rw)).flatMap (cE false)))) (.t (.s true 46 14 (us.length+1) ((us++[(⟨v,(y:Int),m,(aD rs y).t,(aD rs y).t-m⟩:Us)]).flatMap (dQ false)))) (.t L)) rfl rfl rfl (congrArg (fun l:List AV=>some (⟨46,14,l⟩:Ob)) (Oc us (⟨v,(y:Int),m,(aD rs y).t,(aD rs y).t-m⟩:Us))) rfl (cC _ _ (by rw[kH,List.length_append];rfl)) (by rw[kH,List.length_append];rfl) rfl) ?_
 exact oP <| kU (lent':=[mS M N (wY rs y m) (wZ rs us v y m) L]) (.inr rfl) rfl (Hr) (by decide) (fun _ h=>by cases h) ⟨⟨rfl,rfl⟩,trivial⟩ ⟨by unfold mS;rw[e1,e2,show dI true false (rs.set y (⟨(aD rs y).l,(aD rs y).m,(aD rs y).u+m,(aD rs y).t-m,(aD rs y).e,(aD rs y).c⟩:Rw))=.s true 66 24 rs.length ((rs.set y (⟨(aD rs y).l,(aD rs y).m,(aD rs y).u+m,(aD rs y).t-m,(aD rs y).e,(aD rs y).c⟩:Rw)).flatMap (cE false)) by rw[dI,List.length_set],show cN true false (us++[(⟨v,(y:Int),m,(aD rs y).t,(aD rs y).t-m⟩:Us)])=.s true 46 14 (us.length+1) ((us++[(⟨v,(y:Int),m,(aD rs y).t,(aD rs y).t-m⟩:Us)]).flatMap (dQ false)) by rw[cN,List.length_append];rfl];rfl,trivial⟩ ⟨rfl,trivial⟩ (fun h=>by cases h) ⟨rfl,rfl⟩
theorem Pd {M:Mx}{N n y:Nat}{U:List Us}{e c:Nat→Rat}(hOk:M.Ok N) (hI:M.Iv N U) (hy:y<n) (hn:n≤N){L:Tr}:aE false Tryz.prog 124 [⟨92,0,dD M N (.t (dI true false (M.rows U e c n))) (.t (cN true false U)) (.t L)⟩] [.one (.pt 0 0),.one (tv (.int .i64 ((y:Nat):Int)))] (Rt [⟨92,0,dD M N (.t (dI true false (M.rows U e c n))) (.t (cN true false U)) (.t L)⟩] (qF (.of (M.room U y)))):=by
 have hN:=hOk.n
 have h:=QX (M:=M) (N:=N) (y:=y) (rs:=M.rows U e c n) (us:=U) (L:=L) (by rw[cZ];exact hy) (by omega) ((hOk.sz_ring (by omega)).mono (by omega)) (by rw[iE hy];exact(hOk.sz_lim (by omega)).mono (by omega)) (by rw[iE hy];exact(hI.sz_in hOk (by omega)).mono (by omega)) (by rw[cZ];omega) (by omega)
 rw[iE hy]at h
 exact h
theorem rF {M:Mx}{N n y:Nat}{U:List Us}{e c:Nat→Rat}(hOk:M.Ok N) (hI:M.Iv N U) (hy:y<n) (hn:n≤N){o1:Lt}(ho1:refCs 2 o1.l=true):aE false Tryz.prog 124 [⟨92,0,dD M N (.t (dI true false (M.rows U e c n))) (.t (cN true false U)) (.pt 1 0)⟩,o1] [.one (.pt 0 0),.one (tv (.int .i64 ((y:Nat):Int)))] (Rt [⟨92,0,dD M N (.t (dI true false (M.rows U e c n))) (.t (cN true false U)) (.pt 1 0)⟩,o1] (qF (.of (M.room U y)))):=by
 have hN:=hOk.n
 have h:=KN (M:=M) (N:=N) (y:=y) (rs:=M.rows U e c n) (us:=U) ho1 (by rw[cZ];exact hy) (by omega) ((hOk.sz_ring (by omega)).mono (by omega)) (by rw[iE hy];exact(hOk.sz_lim (by omega)).mono (by omega)) (by rw[iE hy];exact(hI.sz_in hOk (by omega)).mono (by omega)) (by rw[cZ];omega) (by omega)
 rw[iE hy]at h
 exact h
theorem xR {M:Mx}{N n y:Nat}{U:List Us}{e c:Nat→Rat}(hOk:M.Ok N) (hI:M.Iv N U) (hy:y<n) (hn:n≤N){v:Int}{m:Rat}{L:Tr}(hm:Sz 330 m) (hU:U.length≤2000):aE false Tryz.prog 125 [mS M N (M.rows U e c n) U L] [.one (.pt 0 0),.one (tv (.int .i64 v)),.one (tv (.int .i64 ((y:Nat):Int))),qF (.of m)] (Rt [mS M N (M.rows (M.us U v y m) e c n) (M.us U v y m) L] (.tup [])):=by
 have hN:=hOk.n
 have h:=UZ (M:=M) (N:=N) (y:=y) (v:=v) (m:=m) (rs:=M.rows U e c n) (us:=U) (L:=L) (by rw[cZ];exact hy) (hm.mono (by omega)) (by rw[iE hy];exact(hI.sz_in hOk (by omega)).mono (by omega)) (by rw[iE hy];exact(hI.sz_tax hOk (by omega)).mono (by omega)) (by rw[cZ];omega) (by omega)
 rw[DR hy,DS hy]at h
 exact h
theorem iQ (q:Rat):q.num.sign<0↔q<0:=by
 rw[Int.sign_neg_iff]
 have:=Rat.num_nonneg (q:=q)
 constructor
 ·intro h
  rcases Rat.le_total (a:=0) (b:=q)with h1 | h1
  ·have:=this.2 h1;omega
  rcases Rat.le_iff_lt_or_eq.1 h1 with h2 | h2
  ·exact h2
  rw[h2]at h;cases h
 intro h
 rcases Int.lt_or_le q.num 0 with h1 | h1
 ·exact h1
 have:=this.1 h1;grind
section
variable {M:Mx}{N v y n k:Nat}{U:List Us}{m:Rat}
open Mx
theorem Kn {v:Int}:(M.us U v y m).length≤U.length+1:=by
 unfold Mx.us Mx.app
 split <;> simp
theorem vW {α:Type}{f:List Us→α→List Us}:∀(I:List α) (U:List Us),(∀U x,(f U x).length≤U.length+1)→(I.foldl f U).length≤U.length+I.length
 | [],U,_=>Nat.le_refl _
 | x::I,U,h=>by
  have h1:=h U x
  have h2:=vW I (f U x) h
  rw[List.foldl_cons,List.length_cons]
  omega
theorem Kj:(M.back U y k).length≤U.length+k:=by
 have:=vW (f:=fun U x=>M.use U y x) (List.range' (y-M.b) k) U fun _ _=>Kn
 rwa[List.length_range']at this
theorem DW (hb:M.b≤3) (hw:M.w≤40):(M.step U y).length≤U.length+40:=by
 unfold Mx.step
 split
 ·have:=Kj (M:=M) (U:=U) (y:=y) (k:=y-(y-M.b))
  omega
 have:=vW (f:=fun U v=>M.use U v y) (List.range' (y-M.w) (y-(y-M.w))) U fun _ _=>Kn
 rw[List.length_range']at this
 unfold Mx.fwd
 omega
theorem zR (hb:M.b≤3) (hw:M.w≤40):∀k,(M.run k).length≤40*k
 | 0=>Nat.le_refl _
 | k+1=>by
  have h1:=zR hb hw k
  have h2:=DW (U:=M.run k) (y:=k) hb hw
  show(M.step (M.run k) k).length≤_
  omega
theorem Ff (h:y≠n):eH (M.use U v y) n=eH U n:=by
 by_cases hp:0<aZ (M.left U v) [M.room U y]
 ·rw[mG hp];exact qM h
 rw[lX hp]
theorem Cy {f:List Us→Nat→List Us}:∀(I:List Nat) (U:List Us),(∀U x,x∈I→eH (f U x) n=eH U n)→eH (I.foldl f U) n=eH U n
 | [],U,_=>rfl
 | x::I,U,h=>by
  rw[List.foldl_cons,Cy I _ fun U z hz=>h U z (List.mem_cons_of_mem _ hz)]
  exact h U x (List.mem_cons_self ..)
theorem DX (h:y<n):eH (M.step U y) n=eH U n:=by
 unfold Mx.step
 split
 ·exact Cy _ _ fun U x hx=>by have:=List.mem_range'_1.1 hx;exact Ff (by omega)
 exact Cy _ _ fun U x _=>Ff (by omega)
theorem Po:∀{k:Nat},k≤n→eH (M.run k) n=0
 | 0,_=>rfl
 | k+1,h=>by
  show eH (M.step (M.run k) k) n=0
  rw[DX (by omega),Po (by omega)]
theorem AH {q:Rat}{y last:Int}{put:Bool}(h0:0≤q) (hl:put=true→last<y):eA (bD (Fr4.of q).s (Fr4.of q).x (Fr4.of q).t (Fr4.of q).y) q y last put=0:=by
 have h1:bD (Fr4.of q).s (Fr4.of q).x (Fr4.of q).t (Fr4.of q).y=true:=xV q
 have h2:¬q.num.sign<0:=by
  have:=Rat.num_nonneg.2 h0
  rw[Int.not_lt]
  exact Int.sign_nonneg_iff.2 this
 unfold eA
 rw[h1,if_neg (by simp),if_neg (by simp[h2])]
 cases put with
 | false=>rfl
 | true=>rw[if_neg (by have:=hl rfl;simp;omega)]
theorem HE {q:Rat}{y:Int}{vs:List (Int×Rat)}:lG 0 q y vs=vs++(if 0<q then [(y,q)]else []):=by
 unfold lG
 rw[if_pos rfl]
 by_cases h:0<q
 ·rw[if_pos (decide_eq_true ((mK q).2 h)),if_pos h]
 rw[if_neg (by simpa using fun h9=>h ((mK q).1 h9)),if_neg h,List.append_nil]
theorem Vr:wl M U [v]=if 0<M.left U v then [((v:Int),M.left U v)]else []:=by
 by_cases h:0<M.left U v
 ·rw[lE h,if_pos h];rfl
 rw[nE h,if_neg h];rfl
theorem KO (h:M.left U v≤0):wl M U [v]=[]:=by rw[Vr,if_neg (by grind)]
theorem RL {I:List Nat}(h:∀i∈I,Sz 330 (M.left U i)):StOk (wl M U I) I.length (331*I.length):=by
 induction I with
 | nil=>exact⟨fun x hx=>(by cases hx),Nat.le_refl _,Nat.le_refl _⟩
 | cons i I ih=>
  obtain⟨h1,h2,h3⟩:=ih fun j hj=>h j (List.mem_cons_of_mem _ hj)
  by_cases hp:0<M.left U i
  ·rw[lE hp]
   have h4:=pI.1 (h i (List.mem_cons_self ..))
   refine⟨fun x hx=>?_,by simp only[List.length_cons];omega,?_⟩
   ·rcases List.mem_cons.1 hx with rfl | hx
    ·exact hp
    exact h1 x hx
   simp only[List.map_cons,hH,List.sum_cons,List.length_cons,wt]at h3⊢
   omega
  rw[nE hp]
  exact⟨h1,by simp only[List.length_cons];omega,by simp only[List.length_cons];omega⟩
theorem xS (fr:Int):∀(l:List (Int×Rat)) (p:Rat),(aW fr l p).2.1.length≤l.length
 | [],_=>Nat.le_refl _
 | x::l,p=>by
  by_cases h:fr≤x.1∧0<p
  ·rw[Cv h.1 h.2]
   have:=xS fr l (p-aZ x.2 [p])
   simp only[List.length_cons]
   omega
  rw[Hg h]
  have:=xS fr l p
  simp only[List.length_cons]
  omega
theorem Vt {fr:Int}(hy:y<N):∀(I:List Nat) (U:List Us),M.Iv N U→M.Ok N→I.Nodup→(∀i∈I,fr≤(i:Int)∧i<N)→
  (∀x∈(aW fr (wl M U I) (M.room U y)).2.1,Sz 330 x.2∧∃i∈I,x.1=(i:Int))∧∀j,M.Iv N (((aW fr (wl M U I) (M.room U y)).2.1.take j).foldl (fun U x=>M.us U x.1 y x.2) U)
 | [],U,hI,_,_,_=>⟨fun x hx=>(by cases hx),fun j=>by rw[show(aW fr (wl M U []) (M.room U y)).2.1=[] from rfl,List.take_nil];exact hI⟩
 | i::I,U,hI,hOk,hn,hf=>by
  obtain⟨hi,hn⟩:=List.nodup_cons.1 hn
  have hf':∀i∈I,fr≤(i:Int)∧i<N:=fun j hj=>hf j (List.mem_cons_of_mem _ hj)
  obtain⟨hfi,hiN⟩:=hf i (List.mem_cons_self ..)
  have ne:∀j∈I,i≠j:=fun j hj e=>hi (e▸hj)
  have hI2:=hI.use hiN hy
  obtain⟨ih1,ih2⟩:=Vt (fr:=fr) hy I (M.use U i y) hI2 hOk hn hf'
  have hw:wl M (M.use U i y) I=wl M U I:=Be fun j hj=>mY (ne j hj)
  rw[hw]at ih1 ih2
  by_cases hp:0<M.left U i
  ·rw[lE hp]
   by_cases hr:0<M.room U y
   ·have hm:0<aZ (M.left U i) [M.room U y]:=by rw[sW];split <;> assumption
    have hroom:M.room (M.use U i y) y=M.room U y-aZ (M.left U i) [M.room U y]:=by rw[mG hm];exact Cf hm (nI _ _)
    rw[Cv (x:=((i:Int),M.left U i)) hfi hr]
    rw[hroom]at ih1 ih2
    dsimp only
    refine⟨fun x hx=>?_,fun j=>?_⟩
    ·rcases List.mem_cons.1 hx with rfl | hx
     ·exact⟨uA (hI.sz_left hOk hiN) (fun q hq=>by rw[List.mem_singleton]at hq;rw[hq];exact hI.sz_room hOk hy),i,List.mem_cons_self ..,rfl⟩
     obtain⟨h1,j,hj,h2⟩:=ih1 x hx
     exact⟨h1,j,List.mem_cons_of_mem _ hj,h2⟩
    cases j with
    | zero=>exact hI
    | succ j=>
     rw[List.take_succ_cons,List.foldl_cons]
     exact ih2 j
   have hno:M.use U i y=U:=lX (by have:=nI (M.left U i) (M.room U y);grind)
   rw[Hg (x:=((i:Int),M.left U i)) (fun h=>hr h.2)]
   rw[hno]at ih1 ih2
   dsimp only
   refine⟨fun x hx=>?_,ih2⟩
   obtain⟨h1,j,hj,h2⟩:=ih1 x hx
   exact⟨h1,j,List.mem_cons_of_mem _ hj,h2⟩
  have hno:M.use U i y=U:=lX (by have:=oU (M.left U i) (M.room U y);grind)
  rw[hno]at ih1 ih2
  rw[nE hp]
  refine⟨fun x hx=>?_,ih2⟩
  obtain⟨h1,j,hj,h2⟩:=ih1 x hx
  exact⟨h1,j,List.mem_cons_of_mem _ hj,h2⟩
def Mx.ex (M:Mx) (k:Nat) (i:Nat):Rat:=if i+M.w<k then M.left (M.run k) i else 0
def Mx.cl (M:Mx) (N:Nat) (i:Nat):Rat:=if i+M.w<N then 0 else M.left (M.run N) i
def eJ (xs:List (Int×Rat)) (e:Nat→Rat) (i:Nat):Rat:=match xs.find? (fun x=>decide (x.1=(i:Int)))with
 | some x=>x.2
 | none=>e i
theorem Sr {J:List Nat}{e:Nat→Rat}{i:Nat}:eJ (wl M U J) e i=if i∈J∧0<M.left U i then M.left U i else e i:=by
 unfold eJ
 induction J with
 | nil=>simp[wl]
 | cons j J ih=>
  by_cases hp:0<M.left U j
  ·rw[lE hp,List.find?_cons]
   by_cases hj:j=i
   ·subst hj
    simp[hp]
   have:decide (((j:Nat):Int)=((i:Nat):Int))=false:=decide_eq_false (by omega)
   simp only[this]
   rw[ih]
   simp[Ne.symm hj]
  rw[nE hp,ih]
  by_cases hj:j=i
  ·subst hj
   simp[hp]
  simp[Ne.symm hj]
theorem sK {xs:List (Int×Rat)}{x:Int×Rat}{e:Nat→Rat}{i:Nat}(hd:∀z∈xs,z.1≠x.1):eJ (xs++[x]) e i=if x.1=(i:Int)then x.2 else eJ xs e i:=by
 unfold eJ
 rw[List.find?_append]
 by_cases h:x.1=(i:Int)
 ·have h1:xs.find? (fun z=>decide (z.1=(i:Int)))=none:=by
   rw[List.find?_eq_none]
   intro z hz h9
   exact hd z hz (by rw[of_decide_eq_true h9,h])
  rw[h1,if_pos h]
  simp[h]
 have h2:[x].find? (fun z=>decide (z.1=(i:Int)))=none:=by simp[h]
 rw[h2,if_neg h]
 cases xs.find? (fun z=>decide (z.1=(i:Int))) <;> rfl
theorem Dm {I:List Nat}(h:I.Nodup):((wl M U I).map Prod.fst).Nodup:=by
 induction I with
 | nil=>simp[wl]
 | cons i I ih=>
  obtain⟨hi,hn⟩:=List.nodup_cons.1 h
  by_cases hp:0<M.left U i
  ·rw[lE hp,List.map_cons,List.nodup_cons]
   refine⟨fun h9=>?_,ih hn⟩
   obtain⟨x,hx,e⟩:=List.mem_map.1 h9
   obtain⟨j,hj,rfl,_⟩:=xT hx
   dsimp only at e
   exact hi (by rwa[show i=j by omega])
  rw[nE hp]
  exact ih hn
theorem qG {xs:List (Int×Rat)}{k:Nat}(h:(xs.map Prod.fst).Nodup) (hk:k<xs.length):∀z∈xs.take k,z.1≠(aU xs k).1:=by
 intro z hz e
 obtain⟨j,hj,rfl⟩:=List.getElem_of_mem hz
 rw[List.length_take]at hj
 rw[List.getElem_take]at e
 have e2:aU xs k=xs[k]:=by
  have:=sB hk
  rw[List.getElem?_eq_getElem hk]at this
  injection this with this
  exact this.symm
 rw[e2]at e
 have h3:=List.pairwise_iff_getElem.1 h j k (by rw[List.length_map];omega) (by rw[List.length_map];omega) (by omega)
 rw[List.getElem_map,List.getElem_map]at h3
 exact h3 e
theorem RM:dW (fun x:Int×Rat=>decide (x.1<(y:Int)-(M.w:Int)+1)) (wl M U (M.I y++[y]))=wl M U (M.I (y+1)):=by
 unfold dW
 rw[Is (p:=fun z=> !decide (z<(y:Int)-(M.w:Int)+1)),QP]
def Mx.J (M:Mx) (y:Nat):List Nat:=(M.I y++[y]).filter fun(i:Nat)=> !(!decide ((i:Int)<(y:Int)-(M.w:Int)+1))
theorem RN:dW (fun x:Int×Rat=> !decide (x.1<(y:Int)-(M.w:Int)+1)) (wl M U (M.I y++[y]))=wl M U (M.J y):=by
 unfold dW
 rw[Is (p:=fun z=> !(!decide (z<(y:Int)-(M.w:Int)+1)))]
 rfl
theorem EI {i:Nat}:i∈M.J y↔i+M.w=y:=by
 unfold Mx.J
 rw[List.mem_filter,List.mem_append,sJ,List.mem_singleton]
 simp only[Bool.not_not,decide_eq_true_eq]
 omega
theorem Pf:(M.J y).Nodup:=by
 refine List.Pairwise.filter _ ?_
 show List.Nodup _
 rw[List.nodup_append]
 refine⟨zO,by simp,fun a ha b hb=>?_⟩
 have:=sJ.1 ha
 rw[List.mem_singleton]at hb
 omega
def Mx.lp (M:Mx):Nat→Int×Bool
 | 0=>(0,false)
 | y+1=>if M.inc y<0 then((y:Int),true)else M.lp y
theorem EJ:∀y:Nat,(M.lp y).2=true→(M.lp y).1<(y:Int)
 | 0,h=>by cases h
 | y+1,h=>by
  unfold Mx.lp at h⊢
  split
  ·dsimp only;omega
  rename_i h9
  rw[if_neg h9]at h
  have:=EJ y h
  omega
theorem HM (hI:M.Iv N (M.run (y+1))) (hy:y<N){i:Nat}(hi:i<y+1):eJ (wl M (M.run (y+1)) (M.J y)) (M.ex y) i=M.ex (y+1) i:=by
 rw[Sr]
 simp only[EI]
 have h0:=(hI.v i (by omega)).1.1
 unfold Mx.ex
 by_cases h:i+M.w=y
 ·rw[if_neg (show¬i+M.w<y by omega),if_pos (show i+M.w<y+1 by omega)]
  by_cases hp:0<M.left (M.run (y+1)) i
  ·rw[if_pos ⟨h,hp⟩]
  rw[if_neg (fun h9=>hp h9.2)]
  grind
 rw[if_neg (fun h9=>h h9.1)]
 by_cases h2:i+M.w<y
 ·rw[if_pos h2,if_pos (by omega)]
  exact(DU h2).symm
 rw[if_neg h2,if_neg (by omega)]
theorem HI {e c:Nat→Rat}(hy:eH U y=0) (he:e y=0) (hc:c y=0):(⟨abv (-(M.inc y)),M.cap*abv (M.inc y),((0:Int):Rat),abv (M.inc y)-M.ring y,((0:Int):Rat),((0:Int):Rat)⟩:Rw)=M.row U e c y:=by
 unfold Mx.row Mx.los Mx.lim Mx.tax
 rw[hy,he,hc,show-(M.inc y)=0-M.inc y by grind,show M.ring y+0=M.ring y by grind]
 rfl
theorem AM (h:M.inc y<0):wl M U (M.I y)++wl M (M.back U y k) [y]=wl M (M.back U y k) (M.I y++[y]):=by
 rw[Ir]
 congr 1
 refine Be fun i hi=>?_
 have:=sJ.1 hi
 exact(sD (by omega)).symm
theorem HJ (h:¬M.inc y<0) (hl:M.left U y=M.los y) (hk:k≤y-(y-M.w)):wl M (M.fwd U y k) (M.I y)=wl M (M.fwd U y k) (M.I y++[y]):=by
 rw[Ir,KO (v:=y),List.append_nil]
 unfold Mx.fwd
 rw[mC _ _ (fun hm=>by have:=List.mem_range'_1.1 hm;omega),hl,Ve h]
 grind
theorem MJ (hI:M.Iv N (M.run N)){i:Nat}(hi:i<N):eJ (wl M (M.run N) (M.I N)) (fun _=>0) i=M.cl N i:=by
 rw[Sr]
 simp only[sJ]
 have h0:=(hI.v i hi).1.1
 unfold Mx.cl
 by_cases h:i+M.w<N
 ·rw[if_pos h,if_neg (fun h9=>by omega)]
 rw[if_neg h]
 by_cases hp:0<M.left (M.run N) i
 ·rw[if_pos ⟨⟨hi,by omega⟩,hp⟩]
 rw[if_neg (fun h9=>hp h9.2)]
 grind
def UsOk (U:List Us):Prop:=∀u∈U,Sz 700 u.n∧Sz 700 u.p∧Sz 700 u.q
theorem UsOk.use (h:UsOk U) (hI:M.Iv N U) (hOk:M.Ok N) (hv:v<N) (hy:y<N):UsOk (M.use U v y):=by
 by_cases hp:0<aZ (M.left U v) [M.room U y]
 ·rw[mG hp]
  intro u hu
  rcases List.mem_append.1 hu with hu | hu
  ·exact h u hu
  rw[List.mem_singleton]at hu
  subst hu
  have h1:Sz 330 (aZ (M.left U v) [M.room U y]):=uA (hI.sz_left hOk hv) (fun q hq=>by rw[List.mem_singleton]at hq;rw[hq];exact hI.sz_room hOk hy)
  have h2:=hI.sz_tax hOk hy
  exact⟨h1.mono (by omega),h2.mono (by omega),(rC h2 h1).mono (by omega)⟩
 rw[lX hp]
 exact h
theorem UsOk.fold {f:List Us→Nat→List Us}(hOk:M.Ok N):∀(I:List Nat){U:List Us},UsOk U→M.Iv N U→(∀U x,x∈I→UsOk U→M.Iv N U→UsOk (f U x)∧M.Iv N (f U x))→UsOk (I.foldl f U)
 | [],_,h,_,_=>h
 | x::I,U,h,hI,hf=>by
  rw[List.foldl_cons]
  obtain⟨h1,h2⟩:=hf U x (List.mem_cons_self ..) h hI
  exact UsOk.fold hOk I h1 h2 fun U z hz=>hf U z (List.mem_cons_of_mem _ hz)
theorem UsOk.run (hOk:M.Ok N):∀{k:Nat},k≤N→UsOk (M.run k)
 | 0,_=>fun u hu=>by cases hu
 | k+1,hk=>by
  have h1:=UsOk.run hOk (k:=k) (by omega)
  have h2:=hOk.run (k:=k) (by omega)
  show UsOk (M.step (M.run k) k)
  unfold Mx.step
  split
  ·exact UsOk.fold hOk _ h1 h2 fun U x hx h hI=>by
    have:=List.mem_range'_1.1 hx
    exact⟨h.use hI hOk (by omega) (by omega),hI.use (by omega) (by omega)⟩
  exact UsOk.fold hOk _ h1 h2 fun U x hx h hI=>by
   have:=List.mem_range'_1.1 hx
   exact⟨h.use hI hOk (by omega) (by omega),hI.use (by omega) (by omega)⟩
theorem Wb {e c:Nat→Rat}(hOk:M.Ok N) (hI:M.Iv N U) (hy:y<N) (he:Sz 330 (e y)) (hc:Sz 330 (c y)):Sz 330 (M.row U e c y).l∧Sz 330 (M.row U e c y).m∧Sz 330 (M.row U e c y).u∧Sz 330 (M.row U e c y).t∧Sz 330 (M.row U e c y).e∧Sz 330 (M.row U e c y).c:=
 ⟨hOk.sz_los hy,hOk.sz_lim hy,hI.sz_in hOk hy,hI.sz_tax hOk hy,he,hc⟩
theorem EL (hOk:M.Ok N) (hk:k≤N) (hy:y<N):Sz 330 (M.ex k y):=by
 unfold Mx.ex
 split
 ·exact(hOk.run hk).sz_left hOk hy
 exact(kX (z:=0) (by omega) (by omega)).mono (by omega)
theorem EM (hOk:M.Ok N) (hy:y<N):Sz 330 (M.cl N y):=by
 unfold Mx.cl
 split
 ·exact(kX (z:=0) (by omega) (by omega)).mono (by omega)
 exact(hOk.run (Nat.le_refl _)).sz_left hOk hy
theorem HK (h:k≤v):uE (M.run k) v=0:=by
 have:=DT (M:=M) h
 unfold Mx.left at this
 grind
end
theorem zM {y:Int}{a:Fr4}{p:Rat}(ha:Qn a p):aE true Tryz.prog 132 [] [.agg (((Tr.v (.int .i64 y)::a.tr false):List Tr).map .t)] (aN (.agg ((cJ true (y,p)).map .t))):=by
 refine bC Tryz.func132 rfl Tryz.ntmps132 rfl aA rfl fun N w c0 h0=>?_
 refine sq ?_;refine rl ?_;refine bx 0 ?_;refine al 1 ?_;refine nl ?_;refine sq ?_;refine rd [0,1] (fun i=>[7].contains i) mixed ?_
 refine dv 0 ?_;refine aI 1 ?_;refine dv 2 ?_;refine aI 3 ?_;refine aF 4 rfl (lW (z:=0) (by omega) (by omega)) yD ⟨a1 rfl,rfl⟩ (qF (.of ((0:Int):Rat))) ?_
 refine kG 2 5 rfl (Vz ha) tJ ⟨aB rfl,aB rfl,rfl⟩ ?_;refine df 6 ?_;refine dst 7 ?_;refine aJ ?_;refine rt ?_
 exact en (.inl rfl) rfl (aO (.agg (.cons (.id rfl) (.cons (.id rfl) (.cons (.sl (trs:=aV (dg 4294967296 p.num.natAbs)) rfl rfl (bB _) (aY _)) (.cons (.id rfl) (.cons (.sl (trs:=aV (dg 4294967296 p.den)) rfl rfl (bB _) (aY _)) .nil))))))) (by decide) (fun _=>DP (y,p)) rfl
theorem Vq {vs:List (Int×Rat)}{rest:List Tr}(hz:∀x∈vs,Sz 68719476736 x.2) (hl:vs.length≤1073741823):aE true Tryz.prog 88 [] [.one (.ef (sV 97 false vs::rest) 0)] (aN (.one (.t (sO 97 vs)))):=by
 refine bC Tryz.func88 rfl Tryz.ntmps88 rfl aA rfl fun N w c0 h0=>?_
 refine sq ?_;refine rl ?_;refine o1 ?_;refine nl ?_;refine sq ?_;refine rl ?_;refine o1 ?_;refine nl ?_;refine sq ?_;refine sq ?_;refine rl ?_;(iterate 3 refine o1 ?_)
 refine cW ([(sV 97 false vs)]) rfl ?_;refine o1 ?_;refine o1 ?_;refine nl ?_;refine bl ?_
 refine lp (γ:=Nat) (fun k=>bS [(3,.one (.sl 0 0 k)),(9,.one (.t (sV 97 false vs))),(10,.one (tv (.int .i64 ((vs.length:Nat):Int)))),(11,.one (tv (.int .i64 ((k:Nat):Int))))]) (fun k=>[({t:=97,z:=5,l:=pH (vs.take k)}:Ob)].map some) (fun k=>k≤vs.length) (fun k=>vs.length-k) 0 (Nat.zero_le _) ((nr (i:=3) 0 97 5 rfl rfl rfl rfl).trans (aG h0 [0] _ _ (by decide) ⟨rfl,rfl,rfl,rfl,trivial⟩ ⟨oe rfl rfl,rfl⟩)) fun k hk=>?_
 refine sq ?_;refine rl ?_;refine o1 ?_;refine nl ?_;refine sq ?_;refine bP rfl (fun h1=>?_) (fun h1=>?_)
 ·refine sk ?_;refine sq ?_;refine bl ?_;refine sq ?_;refine rl ?_;refine o1 ?_;refine cW (cJ false (aU vs (k))) (tY false (by omega)) ?_
  refine al 1 ?_;refine st ?_;refine nl ?_;refine rl ?_;refine o1 ?_;refine ld ?_
  refine iI 2 (zM (y:=(aU vs (k)).1) (Qn.of (p:=(aU vs (k)).2) (hz _ (nG (by omega))))) Jd ⟨aB rfl,rfl⟩ ?_
  refine bs 4 ?_;refine kK (j:=5) aA rfl rfl rfl rfl (.sl rfl (by rw[zN,List.length_take,Nat.min_eq_left hk])) (.sl rfl rfl rfl) rfl rfl rfl (by omega) (by omega) ?_
  refine o1 ?_;refine nl ?_;refine rl ?_;refine o1 ?_;refine WL.cast (t:=20) (u':=.int .i64 ((k+1:Nat):Int)) rfl (aH (by omega)) ?_
  refine o1 ?_;refine nl ?_;have hst:pH (vs.take (k+1))=pH (vs.take k++[((aU vs k).1,(aU vs k).2)]):=by rw[kV (by omega)]
  exact⟨k+1,by omega,by omega,(VA (j:=5) (k1:=2) (k2:=3) (us:=vs.take k) rfl rfl rfl rfl rfl rfl).trans (aG h0 [5] _ _ (by decide) ⟨rfl,rfl,rfl,rfl,trivial⟩ ⟨aQ (congrArg (fun l=>some (⟨97,5,l⟩:Ob)) hst.symm),rfl⟩)⟩
 refine ex ?_;refine sq ?_;refine rl ?_;refine o1 ?_;refine o1 ?_;refine nl ?_;refine rt ?_;have hkk:vs.take k=vs:=List.take_of_length_le (by omega)
 have hkn:k=vs.length:=by omega
 exact en (.inl rfl) rfl (aO (.one (.sl (trs:=(vs.take k).flatMap (cJ true)) rfl rfl (by rw[List.take_of_length_le (by rw[zN,List.length_take];omega)];rfl) (by rw[bN,List.length_take,Nat.min_eq_left hk])))) (by decide) (fun _=>by rw[hkk];exact .inl ⟨rfl,Sj vs⟩) (by rw[hkk,hkn];rfl)
theorem MI {vs:List (Int×Rat)}{rest:List Tr}(hz:∀x∈vs,Sz 68719476736 x.2) (hl:vs.length≤1073741823):aE true Tryz.prog 38 [] [.one (.ef (sV 97 false vs::rest) 0)] (aN (.one (.t (sO 97 vs)))):=by
 refine bC Tryz.func38 rfl Tryz.ntmps38 rfl aA rfl fun N w c0 h0=>?_
 refine sq ?_;refine rl ?_;refine o1 ?_;refine nl ?_;refine sq ?_;refine sq ?_;refine rl ?_;refine o1 ?_;refine o1 ?_;refine nl ?_;refine iH rfl ?_;refine sk ?_;refine sq ?_;refine rl ?_
 (iterate 3 refine o1 ?_);refine iI 0 (Vq hz hl) LX ⟨Df rfl .ef,rfl⟩ ?_;refine o1 ?_;refine nl ?_;refine rt ?_
 exact en (.inl rfl) rfl (aO (.one (.sl (trs:=vs.flatMap (cJ true)) rfl rfl (cC _ _ (bN true vs)) (bN true vs)))) (by decide) (fun _=>KE _ _) rfl
theorem RQ:aE true Tryz.prog 36 [] [] (aN (.one (.t (.p true 136 [sR 97 [],.v (.int .i64 0),.v (.bool false)])))):=by
 refine bC Tryz.func36 rfl Tryz.ntmps36 rfl aA rfl fun N w c0 h0=>?_
 refine sq ?_;refine rl ?_;refine o1 ?_;refine nl ?_;refine sq ?_;refine rl ?_;refine o1 ?_;refine bx 0 ?_
 refine WL.sub ((Wa (j:=0) (key:=1) (e:=97) (z:=5) rfl rfl rfl (.sl (.id (.id .nil)))).trans (jQ (j:=0) (k:=1) (p:=0) (n:=0) (trs:=[]) rfl rfl rfl rfl rfl rfl rfl rfl)) ?_
 refine o1 ?_;refine nl ?_;refine rt ?_
 exact en (.inl rfl) rfl (aO (.one (.pt (k:=0) (trs:=[sR 97 [],.v (.int .i64 0),.v (.bool false)]) rfl))) (by decide) (fun _=>⟨rfl,.inl ⟨rfl,trivial⟩,trivial,trivial,trivial⟩) rfl
end Go.Proofs.YthoemjjmkgmnjaaGreat
