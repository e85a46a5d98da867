/- Part 9 of a proof: Mc to B2. -/
import Derived.Test.YthoemjjmkgmnjaaGreatM8
import Derived.Test.YthoemjjmkgmnjaaGreatM5
import Derived.Test.YthoemjjmkgmnjaaGreatM7
set_option maxRecDepth 100000
set_option linter.unusedVariables false
set_option linter.unusedSimpArgs false
namespace Go.Proofs.YthoemjjmkgmnjaaGreat
open Go Go.RowKit
namespace Mx
def E (M:Mx):Nat→Nat
 | 0=>1
 | n+1=>M.E n*((M.inc n).den*(M.ring n).den)
def D (M:Mx) (N:Nat):Nat:=M.cap.den*M.E N
structure Ok (M:Mx) (N:Nat):Prop where
 inc:∀y,y<N→Sz 4 (M.inc y)
 ring:∀y,y<N→Sz 4 (M.ring y)
 cap:Sz 4 M.cap
 c0:0≤M.cap
 c1:M.cap≤1
 r0:∀y,y<N→0≤M.ring y
 r1:∀y,y<N→M.ring y≤M.lim y
 n:N≤40
 w:M.w≤40
 b:M.b≤3
structure Iv (M:Mx) (N:Nat) (U:List Us):Prop where
 v:∀v,v<N→(0≤M.left U v∧M.left U v≤M.los v)∧Mu (M.D N) (M.left U v)
 y:∀y,y<N→(0≤fM U y∧M.ring y+fM U y≤M.lim y)∧Mu (M.D N) (fM U y)
end Mx
theorem NX {q:Rat}{B:Nat}(h:q.num.natAbs≤B):q≤(B:Rat):=by
 rcases Rat.le_total (a:=q) (b:=0)with h0 | h0
 ·exact Rat.le_trans h0 (by exact_mod_cast Nat.zero_le B)
 have h1:q*(q.den:Rat)=(q.num:Rat):=NW q
 have h2:(1:Rat)≤(q.den:Rat):=by exact_mod_cast q.den_pos
 have h3:q*1≤q*(q.den:Rat):=Rat.mul_le_mul_of_nonneg_left h2 h0
 have h4:(q.num:Rat)≤(B:Rat):=by
  have:q.num≤(B:Int):=by omega
  exact_mod_cast this
 grind
def BB:Nat:=340282366920938463463374607431768211456
theorem EB {q:Rat}(h:Sz 4 q):q≤(BB:Rat):=by
 refine NX ?_
 have h1:=pQ (B:=4294967296) (by omega) (n:=q.num.natAbs)
 have h2:(4294967296:Nat)^(dg 4294967296 q.num.natAbs).length≤4294967296^4:=Nat.pow_le_pow_right (by omega) h.1
 have h3:(4294967296:Nat)^4=BB:=by decide
 omega
theorem NY:(dg 4294967296 BB).length≤5:=dF (by omega) (by decide)
section
variable {M:Mx}{N v y n k:Nat}{U:List Us}{m:Rat}
open Mx
theorem EC:∀n,0<M.E n
 | 0=>by simp[Mx.E]
 | n+1=>by
  have h1:=(M.inc n).den_pos
  have h2:=(M.ring n).den_pos
  exact Nat.mul_pos (EC n) (Nat.mul_pos h1 h2)
theorem Ti:∀{n y:Nat},y<n→Mu (M.E n) (M.inc y)∧Mu (M.E n) (M.ring y)
 | n+1,y,h=>by
  unfold Mx.E
  by_cases e:y=n
  ·subst e
   exact⟨(Mu.self _).up'.up,(Mu.self _).up.up⟩
  obtain⟨h1,h2⟩:=Ti (n:=n) (y:=y) (by omega)
  exact⟨h1.up',h2.up'⟩
theorem SF (h:∀y,y<n→Sz 4 (M.inc y)∧Sz 4 (M.ring y)):(dg 4294967296 (M.E n)).length≤1+8*n:=by
 induction n with
 | zero=>exact dF (by omega) (by simp[Mx.E])
 | succ n ih=>
  have h1:=ih fun y hy=>h y (by omega)
  obtain⟨h2,h3⟩:=h n (by omega)
  have h4:=nY (M.E n) ((M.inc n).den*(M.ring n).den)
  have h5:=nY (M.inc n).den (M.ring n).den
  have h6:=h2.2
  have h7:=h3.2
  unfold Mx.E
  omega
theorem Mx.Ok.len (h:M.Ok N):(dg 4294967296 (M.D N)).length≤325:=by
 have h1:=nY M.cap.den (M.E N)
 have h2:=SF (M:=M) (n:=N) fun y hy=>⟨h.inc y hy,h.ring y hy⟩
 have h3:=h.cap.2
 have:=h.n
 unfold Mx.D
 omega
theorem SG:0<M.D N:=Nat.mul_pos M.cap.den_pos (EC N)
theorem Xm (h:y<N):Mu (M.D N) (M.inc y):=(Ti h).1.up
theorem Qm (h:y<N):Mu (M.D N) (M.ring y):=(Ti h).2.up
theorem Xn (h:y<N):Mu (M.D N) (M.lim y):=(Mu.self M.cap).mul (Ti h).1.abv
theorem Xo (h:y<N):Mu (M.D N) (M.los y):=(Mu.zero.sub (Xm h)).abv
theorem Mx.Ok.sz (h:M.Ok N){q:Rat}(h0:0≤q) (hB:q≤(BB:Rat)) (hm:Mu (M.D N) q):Sz 330 q:=hm.sz h0 hB SG (by have:=h.len;have:=NY;omega)
theorem ED:(0:Rat)≤(BB:Rat):=by exact_mod_cast Nat.zero_le BB
theorem Mx.Ok.abv_le (h:M.Ok N) (hy:y<N):abv (M.inc y)≤(BB:Rat):=by
 have h1:=EB (h.inc y hy)
 have:=ED
 rw[mG]
 split <;> grind
theorem Mx.Ok.lim_le (h:M.Ok N):M.lim y≤abv (M.inc y):=by
 have h1:=Rat.mul_le_mul_of_nonneg_right h.c1 (yM (M.inc y))
 unfold Mx.lim
 grind
theorem Mx.Ok.lim_ge (h:M.Ok N):0≤M.lim y:=Rat.mul_nonneg h.c0 (yM _)
theorem Mx.Ok.los_le (h:M.Ok N) (hy:y<N):M.los y≤(BB:Rat):=by
 have h1:-(M.inc y)≤(BB:Rat):=EB (tM (h.inc y hy))
 have:=ED
 unfold Mx.los
 rw[mG]
 split <;> grind
theorem Mx.Ok.sz_los (h:M.Ok N) (hy:y<N):Sz 330 (M.los y):=h.sz (yM _) (h.los_le hy) (Xo hy)
theorem Mx.Ok.sz_lim (h:M.Ok N) (hy:y<N):Sz 330 (M.lim y):=h.sz h.lim_ge (Rat.le_trans h.lim_le (h.abv_le hy)) (Xn hy)
theorem Mx.Ok.sz_inc (h:M.Ok N) (hy:y<N):Sz 330 (M.inc y):=(h.inc y hy).mono (by omega)
theorem Mx.Ok.sz_ring (h:M.Ok N) (hy:y<N):Sz 330 (M.ring y):=(h.ring y hy).mono (by omega)
theorem Mx.Iv.sz_left (hI:M.Iv N U) (h:M.Ok N) (hv:v<N):Sz 330 (M.left U v):=h.sz (hI.v v hv).1.1 (Rat.le_trans (hI.v v hv).1.2 (h.los_le hv)) (hI.v v hv).2
theorem Mx.Iv.in_le (hI:M.Iv N U) (h:M.Ok N) (hy:y<N):fM U y≤(BB:Rat):=by
 have h1:=(hI.y y hy).1.2
 have h2:=h.r0 y hy
 have h3:=h.lim_le (y:=y)
 have h4:=h.abv_le hy
 grind
theorem Mx.Iv.sz_in (hI:M.Iv N U) (h:M.Ok N) (hy:y<N):Sz 330 (fM U y):=h.sz (hI.y y hy).1.1 (hI.in_le h hy) (hI.y y hy).2
theorem Mx.Iv.tax_ge (hI:M.Iv N U) (h:M.Ok N) (hy:y<N):0≤M.tax U y:=by
 have h1:=(hI.y y hy).1.2
 have h3:=h.lim_le (y:=y)
 unfold Mx.tax
 grind
theorem Mx.Iv.sz_tax (hI:M.Iv N U) (h:M.Ok N) (hy:y<N):Sz 330 (M.tax U y):=by
 refine h.sz (hI.tax_ge h hy) ?_ ((Xm hy).abv.sub ((Qm hy).add (hI.y y hy).2))
 have h1:=(hI.y y hy).1.1
 have h2:=h.r0 y hy
 have h4:=h.abv_le hy
 unfold Mx.tax
 grind
theorem Qo (hI:M.Iv N U) (hy:y<N):M.room U y=M.lim y-(M.ring y+fM U y):=Xk (by have:=(hI.y y hy).1.2;grind)
theorem Qp (hI:M.Iv N U) (hy:y<N):Mu (M.D N) (M.room U y):=((Xn hy).sub ((Qm hy).add (hI.y y hy).2)).abv
theorem Mx.Iv.sz_room (hI:M.Iv N U) (h:M.Ok N) (hy:y<N):Sz 330 (M.room U y):=by
 refine h.sz Qj ?_ (Qp hI hy)
 rw[Qo hI hy]
 have h1:=(hI.y y hy).1.1
 have h2:=h.r0 y hy
 have h4:=h.abv_le hy
 have h3:=h.lim_le (y:=y)
 grind
theorem Mx.Iv.nil (h:M.Ok N):M.Iv N []:=by
 refine⟨fun v hv=>?_,fun y hy=>?_⟩
 ·have e:M.left [] v=M.los v:=by
   unfold Mx.left
   show M.los v-0=_
   grind
  rw[e]
  exact⟨⟨yM _,Rat.le_refl⟩,Xo hv⟩
 have e:fM [] y=0:=rfl
 rw[e]
 refine⟨⟨Rat.le_refl,?_⟩,.zero⟩
 have:=h.r1 y hy
 grind
theorem Mx.Iv.us (hI:M.Iv N U) (hv:v<N) (hy:y<N) (h1:m≤M.left U v) (h2:m≤M.room U y) (hm:Mu (M.D N) m):M.Iv N (M.us U v y m):=by
 unfold Mx.us
 split
 ·rename_i h0
  rw[Qo hI hy]at h2
  refine⟨fun v' hv'=>?_,fun y' hy'=>?_⟩
  ·by_cases e:v=v'
   ·subst e
    rw[Mj]
    obtain⟨⟨g1,g2⟩,g3⟩:=hI.v v hv
    exact⟨⟨by grind,by grind⟩,g3.sub hm⟩
   rw[As e]
   exact hI.v v' hv'
  by_cases e:y=y'
  ·subst e
   rw[rN]
   obtain⟨⟨g1,g2⟩,g3⟩:=hI.y y hy
   exact⟨⟨by grind,by grind⟩,g3.add hm⟩
  rw[pZ e]
  exact hI.y y' hy'
 exact hI
theorem Mx.Iv.use (hI:M.Iv N U) (hv:v<N) (hy:y<N):M.Iv N (M.use U v y):=hI.us hv hy (rL _ _) (rM _ _) ((hI.v v hv).2.min (Qp hI hy))
theorem Mx.Iv.fold {f:List Us→Nat→List Us}:∀(I:List Nat){U:List Us},M.Iv N U→(∀U x,M.Iv N U→x∈I→M.Iv N (f U x))→M.Iv N (I.foldl f U)
 | [],U,h,_=>h
 | x::I,U,h,hf=>by
  rw[List.foldl_cons]
  exact Mx.Iv.fold I (hf U x h (List.mem_cons_self ..)) fun U z hU hz=>hf U z hU (List.mem_cons_of_mem _ hz)
theorem Mx.Iv.back (hI:M.Iv N U) (hy:y<N) (hk:k≤y-(y-M.b)):M.Iv N (M.back U y k):=by
 refine Mx.Iv.fold _ hI fun U x hU hx=>hU.use hy ?_
 have:=List.mem_range'_1.1 hx
 omega
theorem Mx.Iv.fwd (hI:M.Iv N U) (hy:y<N) (hk:k≤y-(y-M.w)):M.Iv N (M.fwd U y k):=by
 refine Mx.Iv.fold _ hI fun U x hU hx=>hU.use ?_ hy
 have:=List.mem_range'_1.1 hx
 omega
theorem Mx.Iv.step (hI:M.Iv N U) (hy:y<N):M.Iv N (M.step U y):=by
 unfold Mx.step
 split
 ·exact hI.back hy (Nat.le_refl _)
 exact hI.fwd hy (Nat.le_refl _)
theorem Mx.Ok.run (h:M.Ok N):∀{k},k≤N→M.Iv N (M.run k)
 | 0,_=>Mx.Iv.nil h
 | k+1,hk=>(Mx.Ok.run h (k:=k) (by omega)).step (by omega)
theorem oY:M.back U y (k+1)=M.use (M.back U y k) y (y-M.b+k):=by
 unfold Mx.back
 rw[List.range'_concat,List.foldl_append]
 simp
theorem rP {v':Nat}(h:y≠v'):M.left (M.back U y k) v'=M.left U v':=by
 unfold Mx.back
 generalize List.range' (y-M.b) k=I
 induction I generalizing U with
 | nil=>rfl
 | cons x I ih=>rw[List.foldl_cons,ih,mL h]
theorem Xp {v':Nat}(h:y<v'):M.left (M.step U y) v'=M.left U v':=by
 unfold Mx.step
 split
 ·exact rP (by omega)
 exact lR _ _ fun hm=>by have:=List.mem_range'_1.1 hm;omega
theorem BN (h:k≤v):M.left (M.run k) v=M.los v:=by
 induction k with
 | zero=>
  show M.los v-0=_
  grind
 | succ k ih=>
  show M.left (M.step (M.run k) k) v=_
  rw[Xp (by omega),ih (by omega)]
theorem BO (h:v+M.w<y):M.left (M.step U y) v=M.left U v:=by
 unfold Mx.step
 split
 ·exact rP (by omega)
 exact lR _ _ fun hm=>by have:=List.mem_range'_1.1 hm;omega
theorem Tj (h:¬M.inc y<0):M.los y=0:=by
 unfold Mx.los
 rw[mG]
 split <;> grind
def Mx.I (M:Mx) (k:Nat):List Nat:=List.range' (k-M.w) (k-(k-M.w))
theorem rU {i:Nat}:i∈M.I k↔i<k∧k≤i+M.w:=by
 unfold Mx.I
 rw[List.mem_range'_1]
 omega
theorem yU:(M.I k).Nodup:=List.nodup_range' ..
theorem Hg {I J:List Nat}:wl M U (I++J)=wl M U I++wl M U J:=by simp[wl]
theorem xA {I:List Nat}{x:Int×Rat}(h:x∈wl M U I):∃i∈I,x=((i:Int),M.left U i)∧0<M.left U i:=by
 unfold wl at h
 obtain⟨i,hi,e⟩:=List.mem_filterMap.1 h
 split at e
 ·rename_i hp
  injection e with e
  exact⟨i,hi,e.symm,hp⟩
 cases e
theorem Cm {I:List Nat}:(wl M U I).length≤I.length:=List.length_filterMap_le ..
theorem Cl (h:M.w≤40):(M.I k).length≤40:=by
 unfold Mx.I
 rw[List.length_range']
 omega
theorem Hh {I:List Nat}{p:Int→Bool}:(wl M U I).filter (fun x=>p x.1)=wl M U (I.filter fun(i:Nat)=>p (i:Int)):=by
 induction I with
 | nil=>rfl
 | cons i I ih=>
  by_cases hp:0<M.left U i
  ·rw[kT hp]
   cases hq:p (i:Int)with
   | true=>rw[List.filter_cons_of_pos (by exact hq),List.filter_cons_of_pos (by exact hq),kT hp,ih]
   | false=>rw[List.filter_cons_of_neg (by simp[hq]),List.filter_cons_of_neg (by simp[hq]),ih]
  rw[mR hp,ih]
  cases hq:p (i:Int)with
  | true=>rw[List.filter_cons_of_pos (by exact hq),mR hp]
  | false=>rw[List.filter_cons_of_neg (by simp[hq])]
theorem NZ:M.I (k+1)=(M.I k++[k]).filter fun(i:Nat)=> !decide ((i:Int)<(k:Int)-(M.w:Int)+1):=by
 have e:M.I k++[k]=List.range' (k-M.w) (k+1-(k-M.w)):=by
  unfold Mx.I
  rw[show k+1-(k-M.w)=(k-(k-M.w))+1 by omega,List.range'_concat,show k-M.w+1*(k-(k-M.w))=k by omega]
 rw[e]
 unfold Mx.I
 by_cases h:k<M.w
 ·rw[show k+1-M.w=0 by omega,show k-M.w=0 by omega]
  symm
  rw[List.filter_eq_self]
  intro i hi
  simp
  omega
 rw[show k+1-(k-M.w)=M.w+1 by omega,List.range'_succ,List.filter_cons_of_neg (by simp;omega),show k+1-(k+1-M.w)=M.w by omega,show k-M.w+1=k+1-M.w by omega]
 symm
 rw[List.filter_eq_self]
 intro i hi
 have:=List.mem_range'_1.1 hi
 simp
 omega
end
section
variable {α:Type}
def sC (dl:α→Bool):List α→Nat
 | []=>0
 | x::l=>if dl x then 0 else sC dl l+1
theorem Da {dl:α→Bool}:∀(l:List α),sC dl l≤l.length
 | []=>Nat.le_refl _
 | x::l=>by
  have:=Da (dl:=dl) l
  unfold sC
  split <;> simp <;> omega
theorem rA {dl:α→Bool}{d:α}:∀{l:List α}{k:Nat},k≤sC dl l→k<l.length→(dl (l.getD k d)=true→sC dl l=k)∧(dl (l.getD k d)=false→k+1≤sC dl l)
 | [],_,_,h=>by simp at h
 | x::l,0,_,_=>by
  have e:(x::l).getD 0 d=x:=rfl
  rw[e]
  unfold sC
  exact⟨fun h=>by simp[h],fun h=>by simp[h]⟩
 | x::l,k+1,h,h2=>by
  have e:(x::l).getD (k+1) d=l.getD k d:=by simp
  rw[e]
  unfold sC at h⊢
  by_cases hx:dl x=true
  ·simp[hx]at h
  simp only[if_neg hx]at h⊢
  have:=rA (dl:=dl) (d:=d) (l:=l) (k:=k) (by omega) (by simpa using h2)
  exact⟨fun h=>by rw[this.1 h],fun h=>by have:=this.2 h;omega⟩
theorem Qq {dl:α→Bool}:∀(l:List α),l.any dl=decide (sC dl l<l.length)
 | []=>rfl
 | x::l=>by
  unfold sC
  by_cases hx:dl x=true
  ·simp[hx]
  simp only[if_neg hx,List.any_cons,Qq l,List.length_cons]
  simp[hx]
def Ak (dl:α→Bool) (l:List α):Int:=if sC dl l=l.length then-1 else(sC dl l:Int)
theorem Oj {dl:α→Bool}(l:List α):decide (0≤Ak dl l)=l.any dl:=by
 have h:=Da (dl:=dl) l
 rw[Qq]
 unfold Ak
 split
 ·rw[decide_eq_decide];omega
 rw[decide_eq_decide];omega
end
def fQ (ys:List (Fr4×Fr4)):Tr:=.s false 70 8 ys.length (ys.flatMap bY)
def dN (o o':Bool) (rs:List Rw):Tr:=.s o 66 24 rs.length (rs.flatMap (cF o'))
def cP (o o':Bool) (us:List Us):Tr:=.s o 46 14 us.length (us.flatMap (dP o'))
theorem dV (o:Bool) (rs:List Rw):(rs.flatMap (cF o)).length=rs.length*24:=gE (dU o) rs
theorem jY (o:Bool) (us:List Us):(us.flatMap (dP o)).length=us.length*14:=gE (kU o) us
theorem xQ (ys:List (Fr4×Fr4)):(ys.flatMap bY).length=ys.length*8:=gE dA ys
theorem By:∀a b:List Tr,rdTL (a++b)=rdTL a++rdTL b:=by
 intro a b
 induction a with
 | nil=>rfl
 | cons x a ih=>simp only[List.cons_append,rdTL,ih]
theorem Hi {α:Type}{f g:α→List Tr}(h:∀x,rdTL (f x)=g x) (xs:List α):rdTL (xs.flatMap f)=xs.flatMap g:=by
 induction xs with
 | nil=>rfl
 | cons x xs ih=>rw[List.flatMap_cons,By,ih,h,List.flatMap_cons]
theorem EE (o:Bool) (a:Fr4):rdTL (a.tr o)=a.tr false:=by
 have h:∀l:List Nat,rdTL (aV l)=aV l:=by
  intro l
  induction l with
  | nil=>rfl
  | cons x l ih=>simp only[aV,List.map_cons,rdTL,gR]at ih⊢;rw[ih]
 simp[Fr4.tr,sU,rdTL,gR,h]
theorem Ru (o:Bool) (rs:List Rw):rdTL (rs.flatMap (cF o))=rs.flatMap (cF false):=Hi (fun r=>by simp only[cF,By,EE]) rs
theorem Rx (o:Bool) (us:List Us):rdTL (us.flatMap (dP o))=us.flatMap (dP false):=Hi (fun u=>by simp only[dP,rdTL,gR,By,EE]) us
def cY (M:Mx) (N:Nat) (r u l:AV):List AV:=[r,u,tv (.bool (Fr4.of M.cap).s),.t (sU false (Fr4.of M.cap).x),tv (.bool (Fr4.of M.cap).t),.t (sU false (Fr4.of M.cap).y),tv (.int .i64 ((M.b:Nat):Int)),tv (.int .i64 ((M.w:Nat):Int)),.t (fQ (yrs M N)),l]
def mF (M:Mx) (N:Nat) (rs:List Rw) (us:List Us) (l:Tr):Lt:=⟨92,0,cY M N (.t (dN true false rs)) (.t (cP true false us)) (.t l)⟩
def dS (vs:List (Int×Rat)) (last:Int) (put:Bool):Tr:=.p true 136 [sR 97 vs,.v (.int .i64 last),.v (.bool put)]
theorem eA {a:Fr4}{p:Rat}(ha:Qn a p):aE false Tryz.prog 75 [] [qF a] (aO (qF (.of p))):=oO ha
theorem zD {a b:Fr4}{p q:Rat}(ha:Qn a p) (hb:Qn b q):aE true Tryz.prog 81 [] [qF a,qF b] (aO (.one (tv (.int .i64 (p-q).num.sign)))):=by
 refine bF Tryz.func81 rfl Tryz.ntmps81 rfl aA rfl fun N w c0 h0=>?_
 have hs:=ha.sz;have hs':=hb.sz
 have hs1:=hs.1;have hs2:=hs.2;have hs3:=hs'.1;have hs4:=hs'.2
 have hs5:(dg 4294967296 ((p.den:Int)).natAbs).length≤68719476736:=hs2
 have hs6:(dg 4294967296 ((q.den:Int)).natAbs).length≤68719476736:=hs4
 refine sq ?_;refine rl ?_;refine bx 0 ?_;refine bx 1 ?_;refine o1 ?_;refine nl ?_
 refine md (γ:=Unit) (fun _=>bV [(2,.one (.pt 0 0)),(3,.one (.pt 1 0)),(4,.one (tv (.int .i64 ((0:Nat):Int))))]) (fun _=>([⟨26,0,((Fr4.of p).tr false).map .t⟩,⟨26,0,((Fr4.of q).tr false).map .t⟩]:List Ob).map some) (fun _=>True) ?_ fun _ _=>?_
 ·refine rd [0,1] (fun i=>[0,1,2,3,4,5].contains i) mixed ?_
  refine WO.two (i:=0) (j:=2) (by kernel_rfl) ?_ ?_
  ·refine kM 0 ?_;refine WO.two (i:=1) (j:=2) (by kernel_rfl) ?_ ?_
   ·refine dC 1 rfl (eA ha) gB ⟨aB rfl,rfl⟩ (qF (.of p)) ?_;refine WO.one (by kernel_rfl) (kM 2 ?_)
    refine aF 3 rfl (eA hb) gB ⟨aB rfl,rfl⟩ (qF (.of q)) ?_;refine dst 4 ?_;refine dst 5 ?_;refine aK ?_
    exact⟨(),trivial,aG h0 [0,1] _ _ (by decide) ⟨rfl,rfl,rfl,trivial⟩ ⟨oe rfl rfl,oe rfl rfl,rfl⟩⟩
   refine kM 2 ?_;refine aF 1 rfl (eA ha) gB ⟨aB rfl,rfl⟩ (qF (.of p)) ?_;refine aF 3 rfl (eA hb) gB ⟨aB rfl,rfl⟩ (qF (.of q)) ?_;refine dst 4 ?_;refine dst 5 ?_
   refine aK ?_;exact⟨(),trivial,aG h0 [0,1] _ _ (by decide) ⟨rfl,rfl,rfl,trivial⟩ ⟨oe rfl rfl,oe rfl rfl,rfl⟩⟩
  refine kM 2 ?_;refine WO.one (by kernel_rfl) (kM 0 ?_)
  refine aF 1 rfl (eA ha) gB ⟨aB rfl,rfl⟩ (qF (.of p)) ?_;refine aF 3 rfl (eA hb) gB ⟨aB rfl,rfl⟩ (qF (.of q)) ?_;refine dst 4 ?_;refine dst 5 ?_;refine aK ?_
  exact⟨(),trivial,aG h0 [0,1] _ _ (by decide) ⟨rfl,rfl,rfl,trivial⟩ ⟨oe rfl rfl,oe rfl rfl,rfl⟩⟩
 refine sq ?_;refine rd [0,1] (fun i=>[11].contains i) mixed ?_
 refine dv 0 ?_;refine aJ 1 ?_;refine dv 2 ?_;refine aJ 3 ?_;refine dv 5 ?_;refine aJ 6 ?_;refine dv 7 ?_;refine aJ 8 ?_;have hn1:=dR (p.num) ((q.den:Int))
 refine aF 4 rfl (Ea (gO hs) (dZ hs')) vZ ⟨aB rfl,aB rfl,rfl⟩ (kF ((p.num*(q.den:Int)))) ?_;have hn2:=dR (q.num) ((p.den:Int))
 refine aF 9 rfl (Ea (gO hs') (dZ hs)) vZ ⟨aB rfl,aB rfl,rfl⟩ (kF ((q.num*(p.den:Int)))) ?_
 refine aF 10 rfl (Mh (Zn.of (k:=(p.num*(q.den:Int))) (by omega)) (Zn.of (k:=(q.num*(p.den:Int))) (by omega))) Ld ⟨aB rfl,aB rfl,rfl⟩ (.one (tv (.int .i64 ((p.num*(q.den:Int))-(q.num*(p.den:Int))).sign))) ?_
 refine cN 11 (by kernel_rfl) rfl rfl aA rfl (by trivial) ?_ (fun h=>by first | rfl | cases h)
 refine aK ?_;refine rt ?_;exact en (.inl rfl) rfl (aP (bL _)) (by decide) (fun _=>trivial) (by rw[←Wt];rfl)
theorem BP {p q:Rat}(h:(p.num-q.num).sign=0):decide (((p.den:Int)-(q.den:Int)).sign=0)=decide (p=q):=by
 have h1:=Int.sign_eq_zero_iff_zero.1 h
 rw[decide_eq_decide,Int.sign_eq_zero_iff_zero]
 exact⟨fun h2=>Rat.ext (by omega) (by omega),fun h2=>by subst h2;omega⟩
theorem HV {p q:Rat}(h:¬(p.num-q.num).sign=0):false=decide (p=q):=by
 refine(decide_eq_false fun h2=>h ?_).symm
 subst h2
 rw[Int.sub_self]
 rfl
theorem tS {a b:Fr4}{p q:Rat}(ha:Qn a p) (hb:Qn b q):aE true Tryz.prog 34 [] [qF a,qF b] (aO (.one (tv (.bool (decide (p=q)))))):=by
 refine bF Tryz.func34 rfl Tryz.ntmps34 rfl aA rfl fun N w c0 h0=>?_
 have hs:=ha.sz;have hs':=hb.sz
 refine sq ?_;refine rl ?_;refine bx 0 ?_;refine bx 1 ?_;refine o1 ?_;refine nl ?_
 refine md (γ:=Unit) (fun _=>bV [(2,.one (.pt 0 0)),(3,.one (.pt 1 0)),(4,.one (tv (.bool false)))]) (fun _=>([⟨26,0,((Fr4.of p).tr false).map .t⟩,⟨26,0,((Fr4.of q).tr false).map .t⟩]:List Ob).map some) (fun _=>True) ?_ fun _ _=>?_
 ·refine rd [0,1] (fun i=>[0,1,2,3,4,5].contains i) mixed ?_
  refine WO.two (i:=0) (j:=2) (by kernel_rfl) ?_ ?_
  ·refine kM 0 ?_;refine WO.two (i:=1) (j:=2) (by kernel_rfl) ?_ ?_
   ·refine dC 1 rfl (eA ha) gB ⟨aB rfl,rfl⟩ (qF (.of p)) ?_;refine WO.one (by kernel_rfl) (kM 2 ?_)
    refine aF 3 rfl (eA hb) gB ⟨aB rfl,rfl⟩ (qF (.of q)) ?_;refine dst 4 ?_;refine dst 5 ?_;refine aK ?_
    exact⟨(),trivial,aG h0 [0,1] _ _ (by decide) ⟨rfl,rfl,rfl,trivial⟩ ⟨oe rfl rfl,oe rfl rfl,rfl⟩⟩
   refine kM 2 ?_;refine aF 1 rfl (eA ha) gB ⟨aB rfl,rfl⟩ (qF (.of p)) ?_;refine aF 3 rfl (eA hb) gB ⟨aB rfl,rfl⟩ (qF (.of q)) ?_;refine dst 4 ?_;refine dst 5 ?_
   refine aK ?_;exact⟨(),trivial,aG h0 [0,1] _ _ (by decide) ⟨rfl,rfl,rfl,trivial⟩ ⟨oe rfl rfl,oe rfl rfl,rfl⟩⟩
  refine kM 2 ?_;refine WO.one (by kernel_rfl) (kM 0 ?_)
  refine aF 1 rfl (eA ha) gB ⟨aB rfl,rfl⟩ (qF (.of p)) ?_;refine aF 3 rfl (eA hb) gB ⟨aB rfl,rfl⟩ (qF (.of q)) ?_;refine dst 4 ?_;refine dst 5 ?_;refine aK ?_
  exact⟨(),trivial,aG h0 [0,1] _ _ (by decide) ⟨rfl,rfl,rfl,trivial⟩ ⟨oe rfl rfl,oe rfl rfl,rfl⟩⟩
 refine sq ?_;refine rl ?_;refine o1 ?_;refine ld ?_;refine o1 ?_;refine ld ?_
 refine ca (Mh (gO hs) (gO hs')) Ld ⟨aB rfl,aB rfl,rfl⟩ (.one (tv (.int .i64 (p.num-q.num).sign))) ?_;refine o1 ?_;refine o1 ?_
 refine WL.split (t:=15) rfl (fun h1=>?_) (fun h1=>?_)
 ·refine o1 ?_;refine ld ?_;refine o1 ?_;refine ld ?_;refine ca (Mh (dZ hs) (dZ hs')) Ld ⟨aB rfl,aB rfl,rfl⟩ (.one (tv (.int .i64 ((p.den:Int)-(q.den:Int)).sign))) ?_
  (iterate 3 refine o1 ?_);refine nl ?_;refine rt ?_;exact en (.inl rfl) rfl (aP (bL _)) (by decide) (fun _=>trivial) (congrArg (fun z=>FV.one (tv (.bool z))) (BP h1))
 (iterate 6 refine aX ?_);refine o1 ?_;refine o1 ?_;refine nl ?_;refine rt ?_
 exact en (.inl rfl) rfl (aP (bL _)) (by decide) (fun _=>trivial) (congrArg (fun z=>FV.one (tv (.bool z))) (HV h1))
theorem OA {a b:Fr4}{p q:Rat}(ha:Qn a p) (hb:Qn b q):aE true Tryz.prog 162 [] [qF a,qF b] (aO (.one (tv (.bool (decide (q<p)))))):=by
 refine bF Tryz.func162 rfl Tryz.ntmps162 rfl aA rfl fun N w c0 h0=>?_
 refine sq ?_;refine rl ?_;refine bx 0 ?_;refine bx 1 ?_;refine o1 ?_;refine nl ?_;refine sq ?_;refine rl ?_;refine ld ?_;refine o1 ?_;refine ld ?_
 refine ca (zD hb ha) Ey ⟨aB rfl,aB rfl,rfl⟩ (.one (tv (.int .i64 (q-p).num.sign))) ?_;refine o1 ?_;refine o1 ?_;refine nl ?_;refine rt ?_
 exact en (.inl rfl) rfl (aP (bL _)) (by decide) (fun _=>trivial) (congrArg (fun z=>FV.one (tv (.bool z))) (HC p q))
theorem OB {a:Fr4}:aE false Tryz.prog 161 [] [qF a] (aO (.one (.t (.f 162 [.a (a.tr false)] [])))):=by
 refine bF Tryz.func161 rfl Tryz.ntmps161 rfl aA rfl fun N w c0 h0=>?_
 refine sq ?_;refine rl ?_;refine bx 0 ?_;refine o1 ?_;refine nl ?_;refine sq ?_;refine rl ?_;refine ld ?_;refine o1 ?_;refine o1 ?_;refine nl ?_;refine rt ?_
 exact en (.inl rfl) rfl (aP (.one (.id rfl))) (by decide) (fun h=>by cases h) rfl
theorem OC {a:Fr4}{p:Rat}{xs:List Fr4}(ha:Qn a p) (hx:∀x∈xs,x.ok) (hl:xs.length≤1099511627776):aE false Tryz.prog 158 [] [qF a,.one (.t (sQ false xs)),.one (.t (.f 161 [] []))] (aO (qF (.of (bC p (xs.map Fr4.q))))):=by
 refine bF Tryz.func158 rfl Tryz.ntmps158 rfl aA rfl fun N w c0 h0=>?_
 have hz:∀x∈xs,Sz 68719476736 x.q:=fun x h=>(show Qn x x.q from⟨hx x h,rfl⟩).sz
 refine sq ?_;refine rl ?_;refine bx 0 ?_;refine al 1 ?_;refine nl ?_;refine sq ?_;refine rl ?_;refine ld ?_;refine ca (eA ha) gB ⟨aB rfl,rfl⟩ (qF (.of p)) ?_
 refine ca (lK (z:=0) (by omega) (by omega)) xM ⟨a1 rfl,rfl⟩ (qF (.of ((0:Int):Rat))) ?_
 refine ca (Eb ha.sz) vL ⟨aB rfl,aB rfl,rfl⟩ (qF (.of p)) ?_;refine al 2 ?_;refine st ?_;refine nl ?_;refine sq ?_;refine sq ?_;refine rl ?_;(iterate 3 refine o1 ?_);refine nl ?_
 refine bl ?_
 refine lp (γ:=Nat) (fun k=>bV [(2,.one (.t (.f 161 [] []))),(6,.one (.pt 0 0)),(7,.one (.pt 1 0)),(14,.one (.t (sQ false xs))),(15,.one (tv (.int .i64 ((xs.length:Nat):Int)))),(16,.one (tv (.int .i64 ((k:Nat):Int))))]) (fun k=>[(⟨26,0,[tv (.bool false),tv (.slice none 0 0),tv (.bool false),tv (.slice none 0 0)]⟩:Ob),⟨26,0,((Fr4.of (bC p ((xs.take k).map Fr4.q))).tr false).map .t⟩].map some) (fun k=>k≤xs.length∧Sz 68719476736 (bC p ((xs.take k).map Fr4.q))) (fun k=>xs.length-k) 0 ⟨Nat.zero_le _,ha.sz⟩ (aG h0 [1,2] _ _ (by decide) ⟨rfl,rfl,rfl,rfl,rfl,rfl,trivial⟩ ⟨oe rfl rfl,aT rfl,rfl⟩) fun k hk=>?_
 refine sq ?_;refine rl ?_;refine o1 ?_;refine nl ?_;refine sq ?_;refine bS rfl (fun h1=>?_) (fun h1=>?_)
 ·refine sk ?_;refine sq ?_;refine bl ?_;refine sq ?_;refine rl ?_;refine o1 ?_;refine cR ((hG xs (k)).tr false) (Kb xs (k:=k) (by omega)) ?_
  refine al 2 ?_;refine st ?_;refine nl ?_;refine sq ?_;refine rd [0,1,2] (fun i=>[].contains i) mixed ?_
  refine dv 0 ?_;refine aJ 1 ?_;refine dv 2 ?_;refine aJ 4 ?_
  refine DP 3 3 [.agg [tv (.bool (aL (bC p ((xs.take k).map Fr4.q)).num)),.t (sU false (dg 4294967296 (bC p ((xs.take k).map Fr4.q)).num.natAbs)),tv (.bool false),.t (sU false (dg 4294967296 (bC p ((xs.take k).map Fr4.q)).den))]] rfl rfl (OB (a:=.of (bC p ((xs.take k).map Fr4.q)))) RP ⟨rfl,rfl⟩ ?_
  refine DP 5 3 [qF (hG xs (k))] rfl rfl (OA (a:=.of (bC p ((xs.take k).map Fr4.q))) (b:=(hG xs (k))) (Qn.of (p:=(bC p ((xs.take k).map Fr4.q))) hk.2) ⟨hx _ (jJ (by omega)),rfl⟩) RQ ⟨rfl,rfl⟩ ?_
  refine aK ?_;refine bS rfl (fun h2=>?_) (fun h2=>?_)
  ·refine rl ?_;refine ld ?_;refine ca (eA ⟨hx _ (jJ (by omega)),rfl⟩) gB ⟨aB rfl,rfl⟩ (qF (.of (hG xs (k)).q)) ?_
   refine ca (lK (z:=0) (by omega) (by omega)) xM ⟨a1 rfl,rfl⟩ (qF (.of ((0:Int):Rat))) ?_
   refine ca (Eb (hz _ (jJ (by omega)))) vL ⟨aB rfl,aB rfl,rfl⟩ (qF (.of (hG xs (k)).q)) ?_
   refine st ?_;refine nl ?_;refine rl ?_;refine o1 ?_;refine WL.cast (t:=30) (u':=.int .i64 ((k+1:Nat):Int)) rfl (aI (by omega)) ?_
   refine o1 ?_;refine nl ?_;have hst:(bC p ((xs.take (k+1)).map Fr4.q))=(hG xs k).q:=by rw[xN (by omega),Hc];exact if_pos h2
   exact⟨k+1,by omega,⟨by omega,by rw[hst];exact hz _ (jJ (by omega))⟩,aG h0 [0,1] _ _ (by decide) ⟨rfl,rfl,rfl,rfl,rfl,rfl,trivial⟩ ⟨oe rfl rfl,aT (congrArg (fun q=>some (⟨26,0,((Fr4.of q).tr false).map .t⟩:Ob)) hst.symm),rfl⟩⟩
  refine sk ?_;refine rl ?_;refine o1 ?_;refine WL.cast (t:=30) (u':=.int .i64 ((k+1:Nat):Int)) rfl (aI (by omega)) ?_
  refine o1 ?_;refine nl ?_;have hst:(bC p ((xs.take (k+1)).map Fr4.q))=(bC p ((xs.take k).map Fr4.q)):=by rw[xN (by omega),Hc];exact if_neg h2
  exact⟨k+1,by omega,⟨by omega,by rw[hst];exact hk.2⟩,aG h0 [0,1] _ _ (by decide) ⟨rfl,rfl,rfl,rfl,rfl,rfl,trivial⟩ ⟨oe rfl rfl,aT (congrArg (fun q=>some (⟨26,0,((Fr4.of q).tr false).map .t⟩:Ob)) hst.symm),rfl⟩⟩
 refine ex ?_;refine sq ?_;refine rl ?_;refine ld ?_;refine st ?_;refine nl ?_;refine rt ?_
 exact en (.inl rfl) rfl (aP (.agg (.cons (.id rfl) (.cons (.id rfl) (.cons (.id rfl) (.cons (.id rfl) .nil)))))) (by decide) (fun h=>by cases h) (by rw[List.take_of_length_le (by omega)];rfl)
theorem ON {a:Fr4}{p:Rat}{xs:List Fr4}(ha:Qn a p) (hx:∀x∈xs,x.ok) (hl:xs.length≤1099511627776):aE false Tryz.prog 123 [] [qF a,.one (.t (sQ false xs))] (aO (qF (.of (bC p (xs.map Fr4.q))))):=by
 refine bF Tryz.func123 rfl Tryz.ntmps123 rfl aA rfl fun N w c0 h0=>?_
 refine sq ?_;refine rl ?_;refine bx 0 ?_;refine al 1 ?_;refine nl ?_;refine sq ?_;refine rl ?_;refine ld ?_;refine o1 ?_
 refine ca (OC ha hx hl) DI ⟨aB rfl,a1 rfl,a1 rfl,rfl⟩ (qF (.of (bC p (xs.map Fr4.q)))) ?_;refine st ?_;refine nl ?_;refine rt ?_
 exact en (.inl rfl) rfl (aP (.agg (.cons (.id rfl) (.cons (.id rfl) (.cons (.id rfl) (.cons (.id rfl) .nil)))))) (by decide) (fun h=>by cases h) (rfl)
theorem SH {a b:Fr4}{p q:Rat}(ha:Qn a p) (hb:Qn b q):aE true Tryz.prog 74 [] [qF a,qF b] (aO (qO (p*q))):=by
 refine bF Tryz.func74 rfl Tryz.ntmps74 rfl aA rfl fun N w c0 h0=>?_
 have hs:=ha.sz;have hs':=hb.sz
 have hs1:=hs.1;have hs2:=hs.2;have hs3:=hs'.1;have hs4:=hs'.2
 have hs5:(dg 4294967296 ((p.den:Int)).natAbs).length≤68719476736:=hs2
 have hs6:(dg 4294967296 ((q.den:Int)).natAbs).length≤68719476736:=hs4
 refine sq ?_;refine rl ?_;refine bx 0 ?_;refine bx 1 ?_;refine al 2 ?_;refine nl ?_
 refine md (γ:=Unit) (fun _=>bV [(2,.one (.pt 0 0)),(3,.one (.pt 1 0)),(4,.one (.pt 2 0))]) (fun _=>([⟨26,0,((Fr4.of p).tr false).map .t⟩,⟨26,0,((Fr4.of q).tr false).map .t⟩,⟨26,0,[tv (.bool false),tv (.slice none 0 0),tv (.bool false),tv (.slice none 0 0)]⟩]:List Ob).map some) (fun _=>True) ?_ fun _ _=>?_
 ·refine rd [0,1,2] (fun i=>[0,1,2,3,4,5].contains i) mixed ?_
  refine WO.two (i:=0) (j:=2) (by kernel_rfl) ?_ ?_
  ·refine kM 0 ?_;refine WO.two (i:=1) (j:=2) (by kernel_rfl) ?_ ?_
   ·refine dC 1 rfl (eA ha) gB ⟨aB rfl,rfl⟩ (qF (.of p)) ?_;refine WO.one (by kernel_rfl) (kM 2 ?_)
    refine aF 3 rfl (eA hb) gB ⟨aB rfl,rfl⟩ (qF (.of q)) ?_;refine dst 4 ?_;refine dst 5 ?_;refine aK ?_
    exact⟨(),trivial,aG h0 [0,1,2] _ _ (by decide) ⟨rfl,rfl,rfl,trivial⟩ ⟨oe rfl rfl,oe rfl rfl,oe rfl rfl,rfl⟩⟩
   refine kM 2 ?_;refine aF 1 rfl (eA ha) gB ⟨aB rfl,rfl⟩ (qF (.of p)) ?_;refine aF 3 rfl (eA hb) gB ⟨aB rfl,rfl⟩ (qF (.of q)) ?_;refine dst 4 ?_;refine dst 5 ?_
   refine aK ?_;exact⟨(),trivial,aG h0 [0,1,2] _ _ (by decide) ⟨rfl,rfl,rfl,trivial⟩ ⟨oe rfl rfl,oe rfl rfl,oe rfl rfl,rfl⟩⟩
  refine kM 2 ?_;refine WO.one (by kernel_rfl) (kM 0 ?_)
  refine aF 1 rfl (eA ha) gB ⟨aB rfl,rfl⟩ (qF (.of p)) ?_;refine aF 3 rfl (eA hb) gB ⟨aB rfl,rfl⟩ (qF (.of q)) ?_;refine dst 4 ?_;refine dst 5 ?_;refine aK ?_
  exact⟨(),trivial,aG h0 [0,1,2] _ _ (by decide) ⟨rfl,rfl,rfl,trivial⟩ ⟨oe rfl rfl,oe rfl rfl,oe rfl rfl,rfl⟩⟩
 refine sq ?_;refine rd [0,1,2] (fun i=>[11].contains i) mixed ?_
 refine dv 0 ?_;refine aJ 1 ?_;refine dv 2 ?_;refine aJ 3 ?_;refine dv 5 ?_;refine aJ 6 ?_;refine dv 7 ?_;refine aJ 8 ?_;have hn1:=dR (p.num) (q.num)
 refine aF 4 rfl (Ea (gO hs) (gO hs')) vZ ⟨aB rfl,aB rfl,rfl⟩ (kF ((p.num*q.num))) ?_;have hn2:=dR ((p.den:Int)) ((q.den:Int))
 refine aF 9 rfl (Ea (dZ hs) (dZ hs')) vZ ⟨aB rfl,aB rfl,rfl⟩ (kF (((p.den:Int)*(q.den:Int)))) ?_
 refine jX 3 10 rfl (Xl (Zn.of (k:=(p.num*q.num)) (by omega)) (Zn.of (k:=((p.den:Int)*(q.den:Int))) (by omega)) (den_nz p q)) Sn ⟨aB rfl,aB rfl,rfl⟩ ?_
 refine dst 11 ?_;refine aK ?_;refine rt ?_
 exact en (.inl rfl) rfl (aP (.agg (.cons (.id rfl) (.cons (.sl (trs:=aV (dg 4294967296 (Rat.divInt (p.num*q.num) ((p.den:Int)*(q.den:Int))).num.natAbs)) rfl rfl (bB _) (aZ _)) (.cons (.id rfl) (.cons (.sl (trs:=aV (dg 4294967296 (Rat.divInt (p.num*q.num) ((p.den:Int)*(q.den:Int))).den)) rfl rfl (bB _) (aZ _)) .nil)))))) (by decide) (fun _=>mH _) (congrArg qO (EA p q))
theorem OD {a b:Fr4}{p q:Rat}(ha:Qn a p) (hb:Qn b q):aE true Tryz.prog 160 [] [qF a,qF b] (aO (.one (tv (.bool (decide (p<q)))))):=by
 refine bF Tryz.func160 rfl Tryz.ntmps160 rfl aA rfl fun N w c0 h0=>?_
 refine sq ?_;refine rl ?_;refine bx 0 ?_;refine bx 1 ?_;refine o1 ?_;refine nl ?_;refine sq ?_;refine rl ?_;refine ld ?_;refine o1 ?_;refine ld ?_
 refine ca (zD hb ha) Ey ⟨aB rfl,aB rfl,rfl⟩ (.one (tv (.int .i64 (q-p).num.sign))) ?_;refine o1 ?_;refine o1 ?_;refine nl ?_;refine rt ?_
 exact en (.inl rfl) rfl (aP (bL _)) (by decide) (fun _=>trivial) (congrArg (fun z=>FV.one (tv (.bool z))) (Qa p q))
theorem OE {a:Fr4}:aE false Tryz.prog 159 [] [qF a] (aO (.one (.t (.f 160 [.a (a.tr false)] [])))):=by
 refine bF Tryz.func159 rfl Tryz.ntmps159 rfl aA rfl fun N w c0 h0=>?_
 refine sq ?_;refine rl ?_;refine bx 0 ?_;refine o1 ?_;refine nl ?_;refine sq ?_;refine rl ?_;refine ld ?_;refine o1 ?_;refine o1 ?_;refine nl ?_;refine rt ?_
 exact en (.inl rfl) rfl (aP (.one (.id rfl))) (by decide) (fun h=>by cases h) rfl
theorem HW {a:Fr4}{p:Rat}{xs:List Fr4}(ha:Qn a p) (hx:∀x∈xs,x.ok) (hl:xs.length≤1099511627776):aE false Tryz.prog 158 [] [qF a,.one (.t (sQ false xs)),.one (.t (.f 159 [] []))] (aO (qF (.of (kI p (xs.map Fr4.q))))):=by
 refine bF Tryz.func158 rfl Tryz.ntmps158 rfl aA rfl fun N w c0 h0=>?_
 have hz:∀x∈xs,Sz 68719476736 x.q:=fun x h=>(show Qn x x.q from⟨hx x h,rfl⟩).sz
 refine sq ?_;refine rl ?_;refine bx 0 ?_;refine al 1 ?_;refine nl ?_;refine sq ?_;refine rl ?_;refine ld ?_;refine ca (eA ha) gB ⟨aB rfl,rfl⟩ (qF (.of p)) ?_
 refine ca (lK (z:=0) (by omega) (by omega)) xM ⟨a1 rfl,rfl⟩ (qF (.of ((0:Int):Rat))) ?_
 refine ca (Eb ha.sz) vL ⟨aB rfl,aB rfl,rfl⟩ (qF (.of p)) ?_;refine al 2 ?_;refine st ?_;refine nl ?_;refine sq ?_;refine sq ?_;refine rl ?_;(iterate 3 refine o1 ?_);refine nl ?_
 refine bl ?_
 refine lp (γ:=Nat) (fun k=>bV [(2,.one (.t (.f 159 [] []))),(6,.one (.pt 0 0)),(7,.one (.pt 1 0)),(14,.one (.t (sQ false xs))),(15,.one (tv (.int .i64 ((xs.length:Nat):Int)))),(16,.one (tv (.int .i64 ((k:Nat):Int))))]) (fun k=>[(⟨26,0,[tv (.bool false),tv (.slice none 0 0),tv (.bool false),tv (.slice none 0 0)]⟩:Ob),⟨26,0,((Fr4.of (kI p ((xs.take k).map Fr4.q))).tr false).map .t⟩].map some) (fun k=>k≤xs.length∧Sz 68719476736 (kI p ((xs.take k).map Fr4.q))) (fun k=>xs.length-k) 0 ⟨Nat.zero_le _,ha.sz⟩ (aG h0 [1,2] _ _ (by decide) ⟨rfl,rfl,rfl,rfl,rfl,rfl,trivial⟩ ⟨oe rfl rfl,aT rfl,rfl⟩) fun k hk=>?_
 refine sq ?_;refine rl ?_;refine o1 ?_;refine nl ?_;refine sq ?_;refine bS rfl (fun h1=>?_) (fun h1=>?_)
 ·refine sk ?_;refine sq ?_;refine bl ?_;refine sq ?_;refine rl ?_;refine o1 ?_;refine cR ((hG xs (k)).tr false) (Kb xs (k:=k) (by omega)) ?_
  refine al 2 ?_;refine st ?_;refine nl ?_;refine sq ?_;refine rd [0,1,2] (fun i=>[].contains i) mixed ?_
  refine dv 0 ?_;refine aJ 1 ?_;refine dv 2 ?_;refine aJ 4 ?_
  refine DP 3 3 [.agg [tv (.bool (aL (kI p ((xs.take k).map Fr4.q)).num)),.t (sU false (dg 4294967296 (kI p ((xs.take k).map Fr4.q)).num.natAbs)),tv (.bool false),.t (sU false (dg 4294967296 (kI p ((xs.take k).map Fr4.q)).den))]] rfl rfl (OE (a:=.of (kI p ((xs.take k).map Fr4.q)))) RM ⟨rfl,rfl⟩ ?_
  refine DP 5 3 [qF (hG xs (k))] rfl rfl (OD (a:=.of (kI p ((xs.take k).map Fr4.q))) (b:=(hG xs (k))) (Qn.of (p:=(kI p ((xs.take k).map Fr4.q))) hk.2) ⟨hx _ (jJ (by omega)),rfl⟩) RN ⟨rfl,rfl⟩ ?_
  refine aK ?_;refine bS rfl (fun h2=>?_) (fun h2=>?_)
  ·refine rl ?_;refine ld ?_;refine ca (eA ⟨hx _ (jJ (by omega)),rfl⟩) gB ⟨aB rfl,rfl⟩ (qF (.of (hG xs (k)).q)) ?_
   refine ca (lK (z:=0) (by omega) (by omega)) xM ⟨a1 rfl,rfl⟩ (qF (.of ((0:Int):Rat))) ?_
   refine ca (Eb (hz _ (jJ (by omega)))) vL ⟨aB rfl,aB rfl,rfl⟩ (qF (.of (hG xs (k)).q)) ?_
   refine st ?_;refine nl ?_;refine rl ?_;refine o1 ?_;refine WL.cast (t:=30) (u':=.int .i64 ((k+1:Nat):Int)) rfl (aI (by omega)) ?_
   refine o1 ?_;refine nl ?_;have hst:(kI p ((xs.take (k+1)).map Fr4.q))=(hG xs k).q:=by rw[xN (by omega),Hf];exact if_pos h2
   exact⟨k+1,by omega,⟨by omega,by rw[hst];exact hz _ (jJ (by omega))⟩,aG h0 [0,1] _ _ (by decide) ⟨rfl,rfl,rfl,rfl,rfl,rfl,trivial⟩ ⟨oe rfl rfl,aT (congrArg (fun q=>some (⟨26,0,((Fr4.of q).tr false).map .t⟩:Ob)) hst.symm),rfl⟩⟩
  refine sk ?_;refine rl ?_;refine o1 ?_;refine WL.cast (t:=30) (u':=.int .i64 ((k+1:Nat):Int)) rfl (aI (by omega)) ?_
  refine o1 ?_;refine nl ?_;have hst:(kI p ((xs.take (k+1)).map Fr4.q))=(kI p ((xs.take k).map Fr4.q)):=by rw[xN (by omega),Hf];exact if_neg h2
  exact⟨k+1,by omega,⟨by omega,by rw[hst];exact hk.2⟩,aG h0 [0,1] _ _ (by decide) ⟨rfl,rfl,rfl,rfl,rfl,rfl,trivial⟩ ⟨oe rfl rfl,aT (congrArg (fun q=>some (⟨26,0,((Fr4.of q).tr false).map .t⟩:Ob)) hst.symm),rfl⟩⟩
 refine ex ?_;refine sq ?_;refine rl ?_;refine ld ?_;refine st ?_;refine nl ?_;refine rt ?_
 exact en (.inl rfl) rfl (aP (.agg (.cons (.id rfl) (.cons (.id rfl) (.cons (.id rfl) (.cons (.id rfl) .nil)))))) (by decide) (fun h=>by cases h) (by rw[List.take_of_length_le (by omega)];rfl)
theorem SI {a:Fr4}{p:Rat}{xs:List Fr4}(ha:Qn a p) (hx:∀x∈xs,x.ok) (hl:xs.length≤1099511627776):aE false Tryz.prog 122 [] [qF a,.one (.t (sQ false xs))] (aO (qF (.of (kI p (xs.map Fr4.q))))):=by
 refine bF Tryz.func122 rfl Tryz.ntmps122 rfl aA rfl fun N w c0 h0=>?_
 refine sq ?_;refine rl ?_;refine bx 0 ?_;refine al 1 ?_;refine nl ?_;refine sq ?_;refine rl ?_;refine ld ?_;refine o1 ?_
 refine ca (HW ha hx hl) DI ⟨aB rfl,a1 rfl,a1 rfl,rfl⟩ (qF (.of (kI p (xs.map Fr4.q)))) ?_;refine st ?_;refine nl ?_;refine rt ?_
 exact en (.inl rfl) rfl (aP (.agg (.cons (.id rfl) (.cons (.id rfl) (.cons (.id rfl) (.cons (.id rfl) .nil)))))) (by decide) (fun h=>by cases h) (rfl)
theorem tN:aE true Tryz.prog 84 [] [] (aO (qO ((0:Int):Rat))):=by
 refine bF Tryz.func84 rfl Tryz.ntmps84 rfl aA rfl fun N w c0 h0=>?_
 refine sq ?_;refine rl ?_;refine al 0 ?_;refine nl ?_;refine sq ?_;refine rl ?_;refine gY 1 (lK (z:=0) (by omega) (by omega)) xM ⟨a1 rfl,rfl⟩ ?_
 refine st ?_;refine nl ?_;refine rt ?_
 exact en (.inl rfl) rfl (aP (.agg (.cons (.id rfl) (.cons (.sl (trs:=aV (dg 4294967296 ((0:Int):Rat).num.natAbs)) rfl rfl (bB _) (aZ _)) (.cons (.id rfl) (.cons (.sl (trs:=aV (dg 4294967296 ((0:Int):Rat).den)) rfl rfl (bB _) (aZ _)) .nil)))))) (by decide) (fun _=>mH _) rfl
theorem SJ:(Fr4.of ((0:Int):Rat)).ok:=(Qn.of (p:=((0:Int):Rat)) ((lC (z:=0) (by omega) (by omega)).mono (M:=68719476736) (by omega))).1
theorem OF {a:Fr4}{p:Rat}(ha:Qn a p):aE false Tryz.prog 122 [] [qF a,.one (.t (sQ false [Fr4.of ((0:Int):Rat)]))] (aO (qF (.of (abv p)))):=by
 have h:=SI (a:=a) (xs:=[Fr4.of ((0:Int):Rat)]) ha (fun x hx=>by rw[List.mem_singleton]at hx;rw[hx];exact SJ) (by simp)
 have e:[Fr4.of ((0:Int):Rat)].map Fr4.q=[0]:=by rw[List.map_cons,Fr4.q_of];rfl
 rwa[e]at h
theorem oF {a:Fr4}{p:Rat}(ha:Qn a p):aE false Tryz.prog 83 [] [qF a] (aO (qF (.of (abv p)))):=by
 refine bF Tryz.func83 rfl Tryz.ntmps83 rfl aA rfl fun N w c0 h0=>?_
 refine sq ?_;refine rl ?_;refine bx 0 ?_;refine al 1 ?_;refine nl ?_;refine sq ?_;refine rd [0,1] (fun i=>[3,4].contains i) mixed ?_
 refine aJ 0 ?_;refine aF 1 rfl (tN) El rfl (qF (.of ((0:Int):Rat))) ?_;refine fJ (key:=2) 2 (by kernel_rfl) rfl rfl aA rfl ⟨rfl,rfl,trivial⟩ ?_
 refine jW (i:=5) (k:=2) (t:=26) (t':=49) (z:=4) (n:=1) (l:=[Fr4.of ((0:Int):Rat)].flatMap (Fr4.tr false)) rfl rfl rfl rfl (.one .sl) (by rfl) (by rfl) ?_
 refine aF 3 rfl (OF ha) RJ ⟨aB rfl,a1 rfl,rfl⟩ (qF (.of (abv p))) ?_;refine dst 4 ?_;refine aK ?_;refine rt ?_
 exact en (.inl rfl) rfl (aP (.agg (.cons (.id rfl) (.cons (.id rfl) (.cons (.id rfl) (.cons (.id rfl) .nil)))))) (by decide) (fun h=>by cases h) (rfl)
theorem Ek {c a b:Fr4}{q p:Rat}{bk fw:Int}(hc:Qn c q) (ha:Qn a p):aE false Tryz.prog 82 [] [.agg ((c.tr false++[.v (.int .i64 bk),.v (.int .i64 fw)]:List Tr).map .t),.agg ((bY (a,b)).map .t)] (aO (qO (q*abv p))):=by
 refine bF Tryz.func82 rfl Tryz.ntmps82 rfl aA rfl fun N w c0 h0=>?_
 have hs:Sz 68719476736 (abv p):=eS ha.sz (by omega)
 refine sq ?_;refine rl ?_;refine bx 0 ?_;refine bx 1 ?_;refine al 2 ?_;refine nl ?_;refine sq ?_;refine rd [0,1,2] (fun i=>[6].contains i) mixed ?_
 refine dv 0 ?_;refine aJ 1 ?_;refine dv 2 ?_;refine aJ 3 ?_;refine aF 4 rfl (oF ha) Bb ⟨aB rfl,rfl⟩ (qF (.of (abv p))) ?_
 refine jX 3 5 rfl (SH hc (Qn.of (p:=(abv p)) hs)) VS ⟨aB rfl,aB rfl,rfl⟩ ?_;refine dst 6 ?_;refine aK ?_;refine rt ?_
 exact en (.inl rfl) rfl (aP (.agg (.cons (.id rfl) (.cons (.sl (trs:=aV (dg 4294967296 (q*abv p).num.natAbs)) rfl rfl (bB _) (aZ _)) (.cons (.id rfl) (.cons (.sl (trs:=aV (dg 4294967296 (q*abv p).den)) rfl rfl (bB _) (aZ _)) .nil)))))) (by decide) (fun h=>by cases h) rfl
theorem HZ {xs:List (Fr4×Fr4)}{dl:(Fr4×Fr4)→Bool}{fd:FuncId}{fst caps:List Tr}(hok:CallOk Tryz.prog fd) (hd:∀x∈xs,aE true Tryz.prog fd [] (cM fst++[.agg ((bY x).map .t)]++cM caps) (aO (.one (tv (.bool (dl x)))))) (hl:xs.length≤1073741823):aE true Tryz.prog 119 [] [.one (.t (fQ xs)),.one (.t (.f fd fst caps))] (aO (.one (tv (.int .i64 (Ak dl xs))))):=by
 refine bF Tryz.func119 rfl Tryz.ntmps119 rfl aA rfl fun N w c0 h0=>?_
 refine sq ?_;refine rl ?_;refine o1 ?_;refine nl ?_;refine sq ?_;refine sq ?_;refine rl ?_;(iterate 3 refine o1 ?_);refine nl ?_;refine bl ?_
 refine lp (γ:=Nat) (fun k=>bV [(0,.one (.t (fQ xs))),(1,.one (.t (.f fd fst caps))),(7,.one (tv (.int .i64 ((xs.length:Nat):Int)))),(8,.one (tv (.int .i64 ((k:Nat):Int))))]) (fun k=>[].map some) (fun k=>k≤xs.length∧k≤sC dl xs) (fun k=>xs.length-k) 0 (⟨Nat.zero_le _,Nat.zero_le _⟩) (aG h0 [] _ _ (by decide) ⟨rfl,rfl,rfl,rfl,trivial⟩ rfl) fun k hk=>?_
 refine sq ?_;refine rl ?_;refine o1 ?_;refine nl ?_;refine sq ?_;refine bS rfl (fun h1=>?_) (fun h1=>?_)
 ·refine sk ?_;refine sq ?_;refine bl ?_;refine sq ?_;refine rl ?_;refine o1 ?_;refine o1 ?_;refine nl ?_;refine sq ?_;refine rl ?_;(iterate 4 refine o1 ?_)
  refine cR (bY (bX xs (k))) (aQ (f:=bY) (z:=8) (o:=0) dA (eW (by omega)) (Nat.le_of_ble_eq_true rfl) rfl) ?_
  refine ce 0 [.agg ((bY (bX xs (k))).map .t)] rfl (hd (bX xs (k)) (iG (by omega))) hok ⟨rfl,rfl⟩ ?_
  refine nl ?_;refine kJ rfl (fun h2=>?_) (fun h2=>?_)
  ·refine sq ?_;refine rl ?_;refine o1 ?_;refine o1 ?_;refine nl ?_;refine rt ?_;have hx9:=(rA hk.2 (by omega)).1 h2
   exact en (.inl rfl) rfl (aP (bL _)) (by decide) (fun _=>trivial) (congrArg (fun z=>FV.one (tv (.int .i64 z))) (by unfold Ak;rw[hx9,if_neg (by omega)]))
  refine sk ?_;refine rl ?_;refine o1 ?_;refine WL.cast (t:=18) (u':=.int .i64 ((k+1:Nat):Int)) rfl (aI (by omega)) ?_
  refine o1 ?_;refine nl ?_;exact⟨k+1,by omega,⟨by omega,(rA hk.2 (by omega)).2 h2⟩,aG h0 [] _ _ (by decide) ⟨rfl,rfl,rfl,rfl,trivial⟩ rfl⟩
 refine ex ?_;refine sq ?_;refine rl ?_;refine o1 ?_;refine nl ?_;refine rt ?_;have hx9:=Da (dl:=dl) xs
 exact en (.inl rfl) rfl (aP (bL _)) (by decide) (fun _=>trivial) (congrArg (fun z=>FV.one (tv (.int .i64 z))) (by unfold Ak;rw[if_pos (by omega)]))
theorem IA {xs:List (Fr4×Fr4)}{dl:(Fr4×Fr4)→Bool}{fd:FuncId}{fst caps:List Tr}(hok:CallOk Tryz.prog fd) (hd:∀x∈xs,aE true Tryz.prog fd [] (cM fst++[.agg ((bY x).map .t)]++cM caps) (aO (.one (tv (.bool (dl x)))))) (hl:xs.length≤1073741823):aE true Tryz.prog 77 [] [.one (.t (fQ xs)),.one (.t (.f fd fst caps))] (aO (.one (tv (.bool (xs.any dl))))):=by
 refine bF Tryz.func77 rfl Tryz.ntmps77 rfl aA rfl fun N w c0 h0=>?_
 refine sq ?_;refine rl ?_;refine o1 ?_;refine nl ?_;refine sq ?_;refine rl ?_;refine o1 ?_;refine o1 ?_
 refine ca (HZ hok hd hl) RI ⟨a1 rfl,a1 rfl,rfl⟩ (.one (tv (.int .i64 (Ak dl xs)))) ?_;refine o1 ?_;refine o1 ?_;refine nl ?_;refine rt ?_
 exact en (.inl rfl) rfl (aP (bL _)) (by decide) (fun _=>trivial) (congrArg (fun z=>FV.one (tv (.bool z))) (Oj xs))
def gA (c:Fr4) (y:Fr4×Fr4):Bool:= !(bD y.1.s y.1.x y.1.t y.1.y)||(!(bD y.2.s y.2.x y.2.t y.2.y)||(decide (y.2.q.num.sign<0)|| decide (0<(y.2.q-c.q*abv y.1.q).num.sign)))
def fK (c:Fr4) (bk fw:Int):Bool:= !(bD c.s c.x c.t c.y)||(decide (c.q.num.sign<0)||(decide (0<(c.q-((1:Int):Rat)).num.sign)||(decide (bk<0)||(decide (3<bk)||(decide (fw<0)|| decide (40<fw))))))
def dD (c:Fr4) (bk fw:Int) (ys:List (Fr4×Fr4)):Int:=if fK c bk fw || ys.any (gA c)then 2 else if decide ((40:Int)<(ys.length:Int))then 3 else 0
theorem OG {c:Fr4}{bk fw:Int}{y:Fr4×Fr4}(hc:c.ok) (hy:y.1.ok∧y.2.ok) (hs:Sz 68719476736 (c.q*abv y.1.q)):aE true Tryz.prog 78 [] [.agg ((bY y).map .t),.one (.t (.p false 28 [.v (.bool c.s),sU false c.x,.v (.bool c.t),sU false c.y,.v (.int .i64 bk),.v (.int .i64 fw)]))] (aO (.one (tv (.bool (gA c y))))):=by
 refine bF Tryz.func78 rfl Tryz.ntmps78 rfl aA rfl fun N w c0 h0=>?_
 refine WP.sub (oX (i:=1) rfl rfl) ?_;refine sq ?_;refine rl ?_;refine bx 0 ?_;refine o1 ?_;refine nl ?_;refine sq ?_;refine rd [0] (fun i=>[25].contains i) mixed ?_
 refine dv 0 ?_;refine aJ 1 ?_;refine aF 2 rfl (vB (⟨hy.1,rfl⟩:Qn y.1 y.1.q).1) Iy ⟨aB rfl,rfl⟩ (.one (tv (.bool (bD y.1.s y.1.x y.1.t y.1.y)))) ?_
 refine WD.splitb (t:=6) rfl (fun h1=>?_) (fun h1=>?_)
 ·refine df 3 ?_;refine df 4 ?_;refine dv 5 ?_;refine aJ 6 ?_
  refine aF 7 rfl (vB (⟨hy.2,rfl⟩:Qn y.2 y.2.q).1) Iy ⟨aB rfl,rfl⟩ (.one (tv (.bool (bD y.2.s y.2.x y.2.t y.2.y)))) ?_;refine WD.splitb (t:=11) rfl (fun h2=>?_) (fun h2=>?_)
  ·refine df 8 ?_;refine df 9 ?_;refine df 10 ?_;refine dv 11 ?_;refine aJ 12 ?_
   refine aF 13 rfl (fR (⟨hy.2,rfl⟩:Qn y.2 y.2.q)) kA ⟨aB rfl,rfl⟩ (.one (tv (.int .i64 y.2.q.num.sign))) ?_;refine df 14 ?_;refine df 15 ?_;refine df 16 ?_
   refine WD.split (t:=20) rfl rfl (fun h3=>?_) (fun h3=>?_)
   ·refine aC 17 ?_;refine aC 18 ?_;refine aC 19 ?_;refine aC 20 ?_;refine aC 21 ?_;refine aC 22 ?_;refine aC 23 ?_;refine df 24 ?_
    refine cN 25 (by kernel_rfl) rfl rfl aA rfl (by trivial) ?_ (fun h=>by first | rfl | cases h)
    refine aK ?_;refine rt ?_
    exact en (.inl rfl) rfl (aP (bL _)) (by decide) (fun _=>trivial) (congrArg (fun z=>FV.one (tv (.bool z))) (by simp only[gA,h1,h2,decide_eq_true h3,Bool.not_true,Bool.not_false,Bool.or_true,Bool.true_or,Bool.false_or,Bool.or_false,Bool.false_eq_true,if_true,if_false,ite_true,ite_false,Bool.and_true,Bool.true_and,Bool.false_and,Bool.and_false]))
   refine dv 17 ?_;refine aJ 18 ?_;refine cO 19 ([.v (.bool c.s),sU false c.x,.v (.bool c.t),sU false c.y,.v (.int .i64 bk),.v (.int .i64 fw)]) rfl ?_;refine aJ 20 ?_
   refine aF 21 rfl (Ek (b:=y.2) (⟨hc,rfl⟩:Qn c c.q) (⟨hy.1,rfl⟩:Qn y.1 y.1.q)) Yg ⟨aB rfl,aB rfl,rfl⟩ (qF (.of (c.q*abv y.1.q))) ?_
   refine aF 22 rfl (zD (⟨hy.2,rfl⟩:Qn y.2 y.2.q) (Qn.of (p:=(c.q*abv y.1.q)) hs)) Ey ⟨aB rfl,aB rfl,rfl⟩ (.one (tv (.int .i64 (y.2.q-(c.q*abv y.1.q)).num.sign))) ?_
   refine df 23 ?_;refine df 24 ?_;refine cN 25 (by kernel_rfl) rfl rfl aA rfl (by trivial) ?_ (fun h=>by first | rfl | cases h)
   refine aK ?_;refine rt ?_
   exact en (.inl rfl) rfl (aP (bL _)) (by decide) (fun _=>trivial) (congrArg (fun z=>FV.one (tv (.bool z))) (by simp only[gA,h1,h2,decide_eq_false h3,Bool.not_true,Bool.not_false,Bool.or_true,Bool.true_or,Bool.false_or,Bool.or_false,Bool.false_eq_true,if_true,if_false,ite_true,ite_false,Bool.and_true,Bool.true_and,Bool.false_and,Bool.and_false]))
  refine df 8 ?_;refine df 9 ?_;refine df 10 ?_;refine aC 11 ?_;refine aC 12 ?_;refine aC 13 ?_;refine aC 14 ?_;refine df 15 ?_;refine df 16 ?_;refine aC 17 ?_;refine aC 18 ?_
  refine aC 19 ?_;refine aC 20 ?_;refine aC 21 ?_;refine aC 22 ?_;refine aC 23 ?_;refine df 24 ?_
  refine cN 25 (by kernel_rfl) rfl rfl aA rfl (by trivial) ?_ (fun h=>by first | rfl | cases h)
  refine aK ?_;refine rt ?_
  exact en (.inl rfl) rfl (aP (bL _)) (by decide) (fun _=>trivial) (congrArg (fun z=>FV.one (tv (.bool z))) (by simp only[gA,h1,h2,Bool.not_true,Bool.not_false,Bool.or_true,Bool.true_or,Bool.false_or,Bool.or_false,Bool.false_eq_true,if_true,if_false,ite_true,ite_false,Bool.and_true,Bool.true_and,Bool.false_and,Bool.and_false]))
 refine df 3 ?_;refine df 4 ?_;refine aC 5 ?_;refine aC 6 ?_;refine aC 7 ?_;refine aC 8 ?_;refine df 9 ?_;refine df 10 ?_;refine aC 11 ?_;refine aC 12 ?_;refine aC 13 ?_
 refine aC 14 ?_;refine df 15 ?_;refine df 16 ?_;refine aC 17 ?_;refine aC 18 ?_;refine aC 19 ?_;refine aC 20 ?_;refine aC 21 ?_;refine aC 22 ?_;refine aC 23 ?_;refine df 24 ?_
 refine cN 25 (by kernel_rfl) rfl rfl aA rfl (by trivial) ?_ (fun h=>by first | rfl | cases h)
 refine aK ?_;refine rt ?_
 exact en (.inl rfl) rfl (aP (bL _)) (by decide) (fun _=>trivial) (congrArg (fun z=>FV.one (tv (.bool z))) (by simp only[gA,h1,Bool.not_true,Bool.not_false,Bool.or_true,Bool.true_or,Bool.false_or,Bool.or_false,Bool.false_eq_true,if_true,if_false,ite_true,ite_false,Bool.and_true,Bool.true_and,Bool.false_and,Bool.and_false]))
theorem Ht {c:Fr4}{bk fw:Int}{ys:List (Fr4×Fr4)}(hc:c.ok) (hy:∀y∈ys,y.1.ok∧y.2.ok) (hs:∀y∈ys,Sz 68719476736 (c.q*abv y.1.q)) (hl:ys.length≤1073741823):aE true Tryz.prog 35 [] [.agg ((c.tr false++[.v (.int .i64 bk),.v (.int .i64 fw)]:List Tr).map .t),.one (.t (fQ ys))] (aO (.one (tv (.int .i64 (dD c bk fw ys))))):=by
 refine bF Tryz.func35 rfl Tryz.ntmps35 rfl aA rfl fun N w c0 h0=>?_
 have hs1:Sz 68719476736 ((1:Int):Rat):=(lC (z:=1) (by omega) (by omega)).mono (by omega)
 refine sq ?_;refine rl ?_;refine bx 0 ?_
 refine WL.sub (wI (i:=2) (k:=0) (t:=28) (l:=[.v (.bool c.s),sU false c.x,.v (.bool c.t),sU false c.y,.v (.int .i64 bk),.v (.int .i64 fw)]) rfl rfl rfl (.one .sl)) ?_;refine o1 ?_
 refine nl ?_;refine sq ?_;refine rl ?_;refine o1 ?_;refine o1 ?_
 refine ca (IA (fst:=[]) (caps:=[.p false 28 [.v (.bool c.s),sU false c.x,.v (.bool c.t),sU false c.y,.v (.int .i64 bk),.v (.int .i64 fw)]]) VV (fun x hx=>OG (bk:=bk) (fw:=fw) hc (hy x hx) (hs x hx)) hl) VU ⟨a1 rfl,a1 rfl,rfl⟩ (.one (tv (.bool (ys.any (gA c))))) ?_
 refine o1 ?_;refine nl ?_;refine sq ?_;refine bl ?_;refine sq ?_;refine WP.sub (oX (i:=2) rfl rfl) ?_;refine rd [] (fun i=>[].contains i) mixed ?_
 refine dv 0 ?_;refine cO 1 ([.v (.bool c.s),sU false c.x,.v (.bool c.t),sU false c.y]) rfl ?_
 refine aF 2 rfl (vB (⟨hc,rfl⟩:Qn c c.q).1) Iy ⟨aB rfl,rfl⟩ (.one (tv (.bool (bD c.s c.x c.t c.y)))) ?_;refine WD.splitb (t:=12) rfl (fun h1=>?_) (fun h1=>?_)
 ·refine df 3 ?_;refine df 4 ?_;refine dv 5 ?_;refine cO 6 ([.v (.bool c.s),sU false c.x,.v (.bool c.t),sU false c.y]) rfl ?_
  refine aF 7 rfl (fR (⟨hc,rfl⟩:Qn c c.q)) kA ⟨aB rfl,rfl⟩ (.one (tv (.int .i64 c.q.num.sign))) ?_;refine df 8 ?_;refine df 9 ?_;refine df 10 ?_
  refine WD.split (t:=20) rfl rfl (fun h2=>?_) (fun h2=>?_)
  ·refine aC 11 ?_;refine aC 12 ?_;refine aC 13 ?_;refine aC 14 ?_;refine aC 15 ?_;refine df 16 ?_;refine df 17 ?_;refine aC 18 ?_;refine aC 19 ?_;refine aC 20 ?_;refine df 21 ?_
   refine df 22 ?_;refine aC 23 ?_;refine aC 24 ?_;refine aC 25 ?_;refine df 26 ?_;refine df 27 ?_;refine aC 28 ?_;refine aC 29 ?_;refine aC 30 ?_;refine df 31 ?_;refine df 32 ?_
   refine aC 33 ?_;refine aC 34 ?_;refine aC 35 ?_;refine df 36 ?_;refine df 37 ?_;refine aC 38 ?_;refine df 39 ?_
   refine cN 40 (by kernel_rfl) rfl rfl aA rfl (by trivial) ?_ (fun h=>by first | rfl | cases h)
   refine aK ?_;refine fY rfl ?_;refine sq ?_;refine rl ?_;refine o1 ?_;refine nl ?_;refine rt ?_
   exact en (.inl rfl) rfl (aP (bL _)) (by decide) (fun _=>trivial) (congrArg (fun z=>FV.one (tv (.int .i64 z))) (by simp only[dD,fK,h1,decide_eq_true h2,Bool.not_true,Bool.not_false,Bool.or_true,Bool.true_or,Bool.false_or,Bool.or_false,Bool.false_eq_true,if_true,if_false,ite_true,ite_false,Bool.and_true,Bool.true_and,Bool.false_and,Bool.and_false]))
  refine dv 11 ?_;refine cO 12 ([.v (.bool c.s),sU false c.x,.v (.bool c.t),sU false c.y]) rfl ?_
  refine aF 13 rfl (lK (z:=1) (by omega) (by omega)) xM ⟨a1 rfl,rfl⟩ (qF (.of ((1:Int):Rat))) ?_
  refine aF 14 rfl (zD (⟨hc,rfl⟩:Qn c c.q) (Qn.of (p:=((1:Int):Rat)) hs1)) Ey ⟨aB rfl,aB rfl,rfl⟩ (.one (tv (.int .i64 (c.q-((1:Int):Rat)).num.sign))) ?_;refine df 15 ?_
  refine df 16 ?_;refine df 17 ?_;refine WD.split (t:=27) rfl rfl (fun h3=>?_) (fun h3=>?_)
  ·refine aC 18 ?_;refine aC 19 ?_;refine aC 20 ?_;refine df 21 ?_;refine df 22 ?_;refine aC 23 ?_;refine aC 24 ?_;refine aC 25 ?_;refine df 26 ?_;refine df 27 ?_;refine aC 28 ?_
   refine aC 29 ?_;refine aC 30 ?_;refine df 31 ?_;refine df 32 ?_;refine aC 33 ?_;refine aC 34 ?_;refine aC 35 ?_;refine df 36 ?_;refine df 37 ?_;refine aC 38 ?_;refine df 39 ?_
   refine cN 40 (by kernel_rfl) rfl rfl aA rfl (by trivial) ?_ (fun h=>by first | rfl | cases h)
   refine aK ?_;refine fY rfl ?_;refine sq ?_;refine rl ?_;refine o1 ?_;refine nl ?_;refine rt ?_
   exact en (.inl rfl) rfl (aP (bL _)) (by decide) (fun _=>trivial) (congrArg (fun z=>FV.one (tv (.int .i64 z))) (by simp only[dD,fK,h1,decide_eq_false h2,decide_eq_true h3,Bool.not_true,Bool.not_false,Bool.or_true,Bool.true_or,Bool.false_or,Bool.or_false,Bool.false_eq_true,if_true,if_false,ite_true,ite_false,Bool.and_true,Bool.true_and,Bool.false_and,Bool.and_false]))
  refine dv 18 ?_;refine cO 19 ([.v (.int .i64 bk)]) rfl ?_;refine dv 20 ?_;refine df 21 ?_;refine df 22 ?_;refine WD.split (t:=32) rfl rfl (fun h4=>?_) (fun h4=>?_)
  ·refine aC 23 ?_;refine aC 24 ?_;refine aC 25 ?_;refine df 26 ?_;refine df 27 ?_;refine aC 28 ?_;refine aC 29 ?_;refine aC 30 ?_;refine df 31 ?_;refine df 32 ?_
   refine aC 33 ?_;refine aC 34 ?_;refine aC 35 ?_;refine df 36 ?_;refine df 37 ?_;refine aC 38 ?_;refine df 39 ?_
   refine cN 40 (by kernel_rfl) rfl rfl aA rfl (by trivial) ?_ (fun h=>by first | rfl | cases h)
   refine aK ?_;refine fY rfl ?_;refine sq ?_;refine rl ?_;refine o1 ?_;refine nl ?_;refine rt ?_
   exact en (.inl rfl) rfl (aP (bL _)) (by decide) (fun _=>trivial) (congrArg (fun z=>FV.one (tv (.int .i64 z))) (by simp only[dD,fK,h1,decide_eq_false h2,decide_eq_false h3,decide_eq_true h4,Bool.not_true,Bool.not_false,Bool.or_true,Bool.true_or,Bool.false_or,Bool.or_false,Bool.false_eq_true,if_true,if_false,ite_true,ite_false,Bool.and_true,Bool.true_and,Bool.false_and,Bool.and_false]))
  refine dv 23 ?_;refine cO 24 ([.v (.int .i64 bk)]) rfl ?_;refine dv 25 ?_;refine df 26 ?_;refine df 27 ?_;refine WD.split (t:=37) rfl rfl (fun h5=>?_) (fun h5=>?_)
  ·refine aC 28 ?_;refine aC 29 ?_;refine aC 30 ?_;refine df 31 ?_;refine df 32 ?_;refine aC 33 ?_;refine aC 34 ?_;refine aC 35 ?_;refine df 36 ?_;refine df 37 ?_
   refine aC 38 ?_;refine df 39 ?_;refine cN 40 (by kernel_rfl) rfl rfl aA rfl (by trivial) ?_ (fun h=>by first | rfl | cases h)
   refine aK ?_;refine fY rfl ?_;refine sq ?_;refine rl ?_;refine o1 ?_;refine nl ?_;refine rt ?_
   exact en (.inl rfl) rfl (aP (bL _)) (by decide) (fun _=>trivial) (congrArg (fun z=>FV.one (tv (.int .i64 z))) (by simp only[dD,fK,h1,decide_eq_false h2,decide_eq_false h3,decide_eq_false h4,decide_eq_true h5,Bool.not_true,Bool.not_false,Bool.or_true,Bool.true_or,Bool.false_or,Bool.or_false,Bool.false_eq_true,if_true,if_false,ite_true,ite_false,Bool.and_true,Bool.true_and,Bool.false_and,Bool.and_false]))
  refine dv 28 ?_;refine cO 29 ([.v (.int .i64 fw)]) rfl ?_;refine dv 30 ?_;refine df 31 ?_;refine df 32 ?_;refine WD.split (t:=42) rfl rfl (fun h6=>?_) (fun h6=>?_)
  ·refine aC 33 ?_;refine aC 34 ?_;refine aC 35 ?_;refine df 36 ?_;refine df 37 ?_;refine aC 38 ?_;refine df 39 ?_
   refine cN 40 (by kernel_rfl) rfl rfl aA rfl (by trivial) ?_ (fun h=>by first | rfl | cases h)
   refine aK ?_;refine fY rfl ?_;refine sq ?_;refine rl ?_;refine o1 ?_;refine nl ?_;refine rt ?_
   exact en (.inl rfl) rfl (aP (bL _)) (by decide) (fun _=>trivial) (congrArg (fun z=>FV.one (tv (.int .i64 z))) (by simp only[dD,fK,h1,decide_eq_false h2,decide_eq_false h3,decide_eq_false h4,decide_eq_false h5,decide_eq_true h6,Bool.not_true,Bool.not_false,Bool.or_true,Bool.true_or,Bool.false_or,Bool.or_false,Bool.false_eq_true,if_true,if_false,ite_true,ite_false,Bool.and_true,Bool.true_and,Bool.false_and,Bool.and_false]))
  refine dv 33 ?_;refine cO 34 ([.v (.int .i64 fw)]) rfl ?_;refine dv 35 ?_;refine df 36 ?_;refine df 37 ?_;refine WD.split (t:=47) rfl rfl (fun h7=>?_) (fun h7=>?_)
  ·refine aC 38 ?_;refine df 39 ?_;refine cN 40 (by kernel_rfl) rfl rfl aA rfl (by trivial) ?_ (fun h=>by first | rfl | cases h)
   refine aK ?_;refine fY rfl ?_;refine sq ?_;refine rl ?_;refine o1 ?_;refine nl ?_;refine rt ?_
   exact en (.inl rfl) rfl (aP (bL _)) (by decide) (fun _=>trivial) (congrArg (fun z=>FV.one (tv (.int .i64 z))) (by simp only[dD,fK,h1,decide_eq_false h2,decide_eq_false h3,decide_eq_false h4,decide_eq_false h5,decide_eq_false h6,decide_eq_true h7,Bool.not_true,Bool.not_false,Bool.or_true,Bool.true_or,Bool.false_or,Bool.or_false,Bool.false_eq_true,if_true,if_false,ite_true,ite_false,Bool.and_true,Bool.true_and,Bool.false_and,Bool.and_false]))
  refine dv 38 ?_;refine df 39 ?_;refine cN 40 (by kernel_rfl) rfl rfl aA rfl (by trivial) ?_ (fun h=>by first | rfl | cases h)
  refine aK ?_;refine kJ rfl (fun h8=>?_) (fun h8=>?_)
  ·refine sq ?_;refine rl ?_;refine o1 ?_;refine nl ?_;refine rt ?_
   exact en (.inl rfl) rfl (aP (bL _)) (by decide) (fun _=>trivial) (congrArg (fun z=>FV.one (tv (.int .i64 z))) (by simp only[dD,fK,h1,decide_eq_false h2,decide_eq_false h3,decide_eq_false h4,decide_eq_false h5,decide_eq_false h6,decide_eq_false h7,h8,Bool.not_true,Bool.not_false,Bool.or_true,Bool.true_or,Bool.false_or,Bool.or_false,Bool.false_eq_true,if_true,if_false,ite_true,ite_false,Bool.and_true,Bool.true_and,Bool.false_and,Bool.and_false]))
  refine sq ?_;refine rl ?_;(iterate 4 refine o1 ?_);refine nl ?_;refine bS rfl (fun h9=>?_) (fun h9=>?_)
  ·refine sq ?_;refine rl ?_;refine o1 ?_;refine nl ?_;refine rt ?_
   exact en (.inl rfl) rfl (aP (bL _)) (by decide) (fun _=>trivial) (congrArg (fun z=>FV.one (tv (.int .i64 z))) (by simp only[dD,fK,h1,decide_eq_false h2,decide_eq_false h3,decide_eq_false h4,decide_eq_false h5,decide_eq_false h6,decide_eq_false h7,h8,decide_eq_true h9,Bool.not_true,Bool.not_false,Bool.or_true,Bool.true_or,Bool.false_or,Bool.or_false,Bool.false_eq_true,if_true,if_false,ite_true,ite_false,Bool.and_true,Bool.true_and,Bool.false_and,Bool.and_false]))
  refine sk ?_;refine sq ?_;refine rl ?_;refine o1 ?_;refine nl ?_;refine rt ?_
  exact en (.inl rfl) rfl (aP (bL _)) (by decide) (fun _=>trivial) (congrArg (fun z=>FV.one (tv (.int .i64 z))) (by simp only[dD,fK,h1,decide_eq_false h2,decide_eq_false h3,decide_eq_false h4,decide_eq_false h5,decide_eq_false h6,decide_eq_false h7,h8,decide_eq_false h9,Bool.not_true,Bool.not_false,Bool.or_true,Bool.true_or,Bool.false_or,Bool.or_false,Bool.false_eq_true,if_true,if_false,ite_true,ite_false,Bool.and_true,Bool.true_and,Bool.false_and,Bool.and_false]))
 refine df 3 ?_;refine df 4 ?_;refine aC 5 ?_;refine aC 6 ?_;refine aC 7 ?_;refine aC 8 ?_;refine df 9 ?_;refine df 10 ?_;refine aC 11 ?_;refine aC 12 ?_;refine aC 13 ?_
 refine aC 14 ?_;refine aC 15 ?_;refine df 16 ?_;refine df 17 ?_;refine aC 18 ?_;refine aC 19 ?_;refine aC 20 ?_;refine df 21 ?_;refine df 22 ?_;refine aC 23 ?_;refine aC 24 ?_
 refine aC 25 ?_;refine df 26 ?_;refine df 27 ?_;refine aC 28 ?_;refine aC 29 ?_;refine aC 30 ?_;refine df 31 ?_;refine df 32 ?_;refine aC 33 ?_;refine aC 34 ?_;refine aC 35 ?_
 refine df 36 ?_;refine df 37 ?_;refine aC 38 ?_;refine df 39 ?_;refine cN 40 (by kernel_rfl) rfl rfl aA rfl (by trivial) ?_ (fun h=>by first | rfl | cases h)
 refine aK ?_;refine fY rfl ?_;refine sq ?_;refine rl ?_;refine o1 ?_;refine nl ?_;refine rt ?_
 exact en (.inl rfl) rfl (aP (bL _)) (by decide) (fun _=>trivial) (congrArg (fun z=>FV.one (tv (.int .i64 z))) (by simp only[dD,fK,h1,Bool.not_true,Bool.not_false,Bool.or_true,Bool.true_or,Bool.false_or,Bool.or_false,Bool.false_eq_true,if_true,if_false,ite_true,ite_false,Bool.and_true,Bool.true_and,Bool.false_and,Bool.and_false]))
theorem OH {M:Mx}{N y:Nat}{rs:List Rw}{us:List Us}{L:Tr}(hy:y<rs.length) (hyN:y<N) (hr:Sz 400 (M.ring y)) (hm:Sz 400 (aD rs y).m) (hu:Sz 400 (aD rs y).u) (hl:rs.length≤1073741823) (hN:N≤1073741823):aE false Tryz.prog 124 [⟨92,0,cY M N (.t (dN true false rs)) (.t (cP true false us)) (.t L)⟩] [.one (.pt 0 0),.one (tv (.int .i64 ((y:Nat):Int)))] (Rt [⟨92,0,cY M N (.t (dN true false rs)) (.t (cP true false us)) (.t L)⟩] (qF (.of (abv ((aD rs y).m-(M.ring y+(aD rs y).u)))))):=by
 refine wX Tryz.func124 rfl Tryz.ntmps124 rfl aA rfl fun N9 M9 w9 c0 h0=>?_
 refine WP.sub (tI (j:=0) (key:=1) (p:=0) (e:=66) (z:=24) (n:=rs.length) (trs:=rs.flatMap (cF false)) (l':=cY M N (.sl 1 0 rs.length) (.t (cP true false us)) (.t L)) rfl rfl rfl rfl rfl) ?_
 have hyl:(yrs M N).length=N:=cU M N
 have hs1:Sz 68719476736 (M.ring y+(aD rs y).u):=(iH hr hu).mono (by omega)
 have hs2:Sz 68719476736 ((aD rs y).m-(M.ring y+(aD rs y).u)):=(qS hm (iH hr hu)).mono (by omega)
 have hr1:Sz 68719476736 (M.ring y):=hr.mono (by omega)
 have hm1:Sz 68719476736 (aD rs y).m:=hm.mono (by omega)
 have hu1:Sz 68719476736 (aD rs y).u:=hu.mono (by omega)
 refine sq ?_;refine rl ?_;refine al 2 ?_;refine nl ?_;refine sq ?_;refine rd [0,1,2] (fun i=>[29].contains i) mixed ?_
 refine dv 0 ?_;refine dv 1 ?_;refine dv 2 ?_;refine dv 3 ?_;refine aJ 4 ?_;refine dv 5 ?_;refine dv 6 ?_;refine dv 7 ?_
 refine uY 8 (jE (f:=(cF false)) (z:=24) (o:=4) (us:=(Fr4.of (aD rs (y)).m).tr false) (dU false) (iQ (by omega)) (Nat.le_of_ble_eq_true rfl) rfl) ?_
 refine dv 9 ?_;refine dv 10 ?_;refine dv 11 ?_;refine aJ 12 ?_;refine dv 13 ?_;refine dv 14 ?_;refine dv 15 ?_
 refine cO 16 ((Fr4.of (M.ring (y))).tr false) (aQ (f:=bY) (z:=8) (o:=4) dA (eL (by omega)) (Nat.le_of_ble_eq_true rfl) rfl) ?_
 refine dv 17 ?_;refine dv 18 ?_;refine dv 19 ?_;refine dv 20 ?_;refine aJ 21 ?_;refine dv 22 ?_;refine dv 23 ?_;refine dv 24 ?_
 refine uY 25 (jE (f:=(cF false)) (z:=24) (o:=8) (us:=(Fr4.of (aD rs (y)).u).tr false) (dU false) (iQ (by omega)) (Nat.le_of_ble_eq_true rfl) rfl) ?_
 refine aF 26 rfl (pW (Qn.of (p:=(M.ring (y))) (by assumption)) (Qn.of (p:=(aD rs (y)).u) (by assumption))) sS ⟨aB rfl,aB rfl,rfl⟩ (qF (.of ((M.ring (y))+(aD rs (y)).u))) ?_
 refine aF 27 rfl (mM (Qn.of (p:=(aD rs (y)).m) (by assumption)) (Qn.of (p:=((M.ring (y))+(aD rs (y)).u)) (by assumption))) pJ ⟨aB rfl,aB rfl,rfl⟩ (qF (.of ((aD rs (y)).m-((M.ring (y))+(aD rs (y)).u)))) ?_
 refine aF 28 rfl (oF (Qn.of (p:=((aD rs (y)).m-((M.ring (y))+(aD rs (y)).u))) (by assumption))) Bb ⟨aB rfl,rfl⟩ (qF (.of (abv ((aD rs (y)).m-((M.ring (y))+(aD rs (y)).u))))) ?_
 refine dst 29 ?_;refine aK ?_;refine rt ?_
 refine wJ (jD (j:=0) (k:=1) (p:=0) (e:=66) (z:=24) (n:=rs.length) (trs:=rs.flatMap (cF false)) (l':=cY M N (.t (.s true 66 24 (rs.length) (rs.flatMap (cF false)))) (.t (cP true false us)) (.t L)) rfl rfl rfl (rfl) rfl (cC _ _ (dV _ _)) (dV _ _) rfl) ?_
 exact oE <| kK (lent':=[⟨92,0,cY M N (.t (dN true false rs)) (.t (cP true false us)) (.t L)⟩]) (.inl rfl) rfl (aP (.agg (.cons (.id rfl) (.cons (.id rfl) (.cons (.id rfl) (.cons (.id rfl) .nil)))))) (by decide) (fun _ h=>by cases h) ⟨⟨rfl,rfl⟩,trivial⟩ ⟨rfl,trivial⟩ ⟨rfl,trivial⟩ (fun h=>by cases h) ⟨rfl,rfl⟩
theorem IB {M:Mx}{N y:Nat}{rs:List Rw}{us:List Us}{o1:Lt}(ho1:refCs 2 o1.l=true) (hy:y<rs.length) (hyN:y<N) (hr:Sz 400 (M.ring y)) (hm:Sz 400 (aD rs y).m) (hu:Sz 400 (aD rs y).u) (hl:rs.length≤1073741823) (hN:N≤1073741823):aE false Tryz.prog 124 [⟨92,0,cY M N (.t (dN true false rs)) (.t (cP true false us)) (.pt 1 0)⟩,o1] [.one (.pt 0 0),.one (tv (.int .i64 ((y:Nat):Int)))] (Rt [⟨92,0,cY M N (.t (dN true false rs)) (.t (cP true false us)) (.pt 1 0)⟩,o1] (qF (.of (abv ((aD rs y).m-(M.ring y+(aD rs y).u)))))):=by
 refine wX Tryz.func124 rfl Tryz.ntmps124 rfl aA rfl fun N9 M9 w9 c0 h0=>?_
 refine WP.sub (tI (j:=0) (key:=2) (p:=0) (e:=66) (z:=24) (n:=rs.length) (trs:=rs.flatMap (cF false)) (l':=cY M N (.sl 2 0 rs.length) (.t (cP true false us)) (.pt 1 0)) rfl rfl rfl rfl rfl) ?_
 have hyl:(yrs M N).length=N:=cU M N
 have hs1:Sz 68719476736 (M.ring y+(aD rs y).u):=(iH hr hu).mono (by omega)
 have hs2:Sz 68719476736 ((aD rs y).m-(M.ring y+(aD rs y).u)):=(qS hm (iH hr hu)).mono (by omega)
 have hr1:Sz 68719476736 (M.ring y):=hr.mono (by omega)
 have hm1:Sz 68719476736 (aD rs y).m:=hm.mono (by omega)
 have hu1:Sz 68719476736 (aD rs y).u:=hu.mono (by omega)
 refine sq ?_;refine rl ?_;refine al 3 ?_;refine nl ?_;refine sq ?_;refine rd [0,2,3] (fun i=>[29].contains i) mixed ?_
 refine dv 0 ?_;refine dv 1 ?_;refine dv 2 ?_;refine dv 3 ?_;refine aJ 4 ?_;refine dv 5 ?_;refine dv 6 ?_;refine dv 7 ?_
 refine uY 8 (jE (f:=(cF false)) (z:=24) (o:=4) (us:=(Fr4.of (aD rs (y)).m).tr false) (dU false) (iQ (by omega)) (Nat.le_of_ble_eq_true rfl) rfl) ?_
 refine dv 9 ?_;refine dv 10 ?_;refine dv 11 ?_;refine aJ 12 ?_;refine dv 13 ?_;refine dv 14 ?_;refine dv 15 ?_
 refine cO 16 ((Fr4.of (M.ring (y))).tr false) (aQ (f:=bY) (z:=8) (o:=4) dA (eL (by omega)) (Nat.le_of_ble_eq_true rfl) rfl) ?_
 refine dv 17 ?_;refine dv 18 ?_;refine dv 19 ?_;refine dv 20 ?_;refine aJ 21 ?_;refine dv 22 ?_;refine dv 23 ?_;refine dv 24 ?_
 refine uY 25 (jE (f:=(cF false)) (z:=24) (o:=8) (us:=(Fr4.of (aD rs (y)).u).tr false) (dU false) (iQ (by omega)) (Nat.le_of_ble_eq_true rfl) rfl) ?_
 refine aF 26 rfl (pW (Qn.of (p:=(M.ring (y))) (by assumption)) (Qn.of (p:=(aD rs (y)).u) (by assumption))) sS ⟨aB rfl,aB rfl,rfl⟩ (qF (.of ((M.ring (y))+(aD rs (y)).u))) ?_
 refine aF 27 rfl (mM (Qn.of (p:=(aD rs (y)).m) (by assumption)) (Qn.of (p:=((M.ring (y))+(aD rs (y)).u)) (by assumption))) pJ ⟨aB rfl,aB rfl,rfl⟩ (qF (.of ((aD rs (y)).m-((M.ring (y))+(aD rs (y)).u)))) ?_
 refine aF 28 rfl (oF (Qn.of (p:=((aD rs (y)).m-((M.ring (y))+(aD rs (y)).u))) (by assumption))) Bb ⟨aB rfl,rfl⟩ (qF (.of (abv ((aD rs (y)).m-((M.ring (y))+(aD rs (y)).u))))) ?_
 refine dst 29 ?_;refine aK ?_;refine rt ?_
 refine wJ (jD (j:=0) (k:=2) (p:=0) (e:=66) (z:=24) (n:=rs.length) (trs:=rs.flatMap (cF false)) (l':=cY M N (.t (.s true 66 24 (rs.length) (rs.flatMap (cF false)))) (.t (cP true false us)) (.pt 1 0)) rfl rfl rfl (rfl) rfl (cC _ _ (dV _ _)) (dV _ _) rfl) ?_
 exact oE <| kK (lent':=[⟨92,0,cY M N (.t (dN true false rs)) (.t (cP true false us)) (.pt 1 0)⟩,o1]) (.inl rfl) rfl (aP (.agg (.cons (.id rfl) (.cons (.id rfl) (.cons (.id rfl) (.cons (.id rfl) .nil)))))) (by decide) (fun _ h=>by cases h) ⟨⟨rfl,rfl⟩,⟨rfl,rfl⟩,trivial⟩ ⟨rfl,rfl,trivial⟩ ⟨rfl,ho1,trivial⟩ (fun h=>by cases h) ⟨rfl,rfl⟩
theorem SK {M:Mx}{N y:Nat}{v:Int}{m:Rat}{rs:List Rw}{us:List Us}{L:Tr}(hy:y<rs.length) (hm:Sz 400 m) (hu:Sz 400 (aD rs y).u) (ht:Sz 400 (aD rs y).t) (hl:rs.length≤1073741823) (hlu:us.length≤1073741822):aE false Tryz.prog 125 [mF M N rs us L] [.one (.pt 0 0),.one (tv (.int .i64 v)),.one (tv (.int .i64 ((y:Nat):Int))),qF (.of m)] (Rt [mF M N (wF rs y m) (wG rs us v y m) L] (.tup [])):=by
 refine wX Tryz.func125 rfl Tryz.ntmps125 rfl aA rfl fun N9 M9 w9 c0 h0=>?_
 refine WP.sub (tI (j:=0) (key:=1) (p:=0) (e:=66) (z:=24) (n:=rs.length) (trs:=rs.flatMap (cF false)) (l':=cY M N (.sl 1 0 rs.length) (.t (cP true false us)) (.t L)) rfl rfl rfl rfl rfl) ?_
 refine WP.sub (tI (j:=0) (key:=2) (p:=1) (e:=46) (z:=14) (n:=us.length) (trs:=us.flatMap (dP false)) (l':=cY M N (.sl 1 0 rs.length) (.sl 2 0 us.length) (.t L)) rfl rfl rfl rfl rfl) ?_
 have hm1:Sz 68719476736 m:=hm.mono (by omega)
 have hu1:Sz 68719476736 (aD rs y).u:=hu.mono (by omega)
 have ht1:Sz 68719476736 (aD rs y).t:=ht.mono (by omega)
 have hs1:Sz 68719476736 ((aD rs y).u+m):=(iH hu hm).mono (by omega)
 have hs2:Sz 68719476736 ((aD rs y).t-m):=(qS ht hm).mono (by omega)
 refine sq ?_;refine rl ?_;refine bx 3 ?_;refine nl ?_;refine sq ?_;refine sq ?_;refine rl ?_;refine ld ?_
 refine ca (fR (Qn.of (p:=m) (by assumption))) kA ⟨aB rfl,rfl⟩ (.one (tv (.int .i64 m.num.sign))) ?_
 refine o1 ?_;refine nl ?_;refine bS rfl (fun h1=>?_) (fun h1=>?_)
 ·refine rt ?_
  refine wJ (jD (j:=0) (k:=1) (p:=0) (e:=66) (z:=24) (n:=rs.length) (trs:=rs.flatMap (cF false)) (l':=cY M N (.t (.s true 66 24 (rs.length) (rs.flatMap (cF false)))) (.sl 2 0 us.length) (.t L)) rfl rfl rfl (rfl) rfl (cC _ _ (dV _ _)) (dV _ _) rfl) ?_
  refine wJ (jD (j:=0) (k:=2) (p:=1) (e:=46) (z:=14) (n:=us.length) (trs:=us.flatMap (dP false)) (l':=cY M N (.t (dN true false rs)) (.t (.s true 46 14 (us.length) (us.flatMap (dP false)))) (.t L)) rfl rfl rfl (rfl) rfl (cC _ _ (jY _ _)) (jY _ _) rfl) ?_
  have hp0:¬0<m:=fun h9=>by have h8:=(lY m).2 h9;omega
  have e1:wF rs y m=rs:=if_neg hp0
  have e2:wG rs us v y m=us:=if_neg hp0
  exact oE <| kK (lent':=[mF M N (wF rs y m) (wG rs us v y m) L]) (.inl rfl) rfl (Gh) (by decide) (fun _ h=>by cases h) ⟨⟨rfl,rfl⟩,trivial⟩ ⟨by unfold mF;rw[e1,e2];rfl,trivial⟩ ⟨rfl,trivial⟩ (fun h=>by cases h) ⟨rfl,rfl⟩
 refine sk ?_;refine sq ?_;refine rl ?_;(iterate 4 refine o1 ?_);refine ld ?_;(iterate 3 refine o1 ?_);refine nl ?_;refine sq ?_;refine rd [0,1,3] (fun i=>[15].contains i) mixed ?_
 refine dv 0 ?_;refine dv 1 ?_;refine aJ 2 ?_;refine dv 3 ?_;refine dv 4 ?_;refine dv 5 ?_
 refine uY 6 (jE (f:=(cF false)) (z:=24) (o:=12) (us:=(Fr4.of (aD rs (y)).t).tr false) (dU false) (iQ (by omega)) (Nat.le_of_ble_eq_true rfl) rfl) ?_
 refine dv 7 ?_;refine dv 8 ?_;refine dv 9 ?_
 refine uY 10 (jE (f:=(cF false)) (z:=24) (o:=12) (us:=(Fr4.of (aD rs (y)).t).tr false) (dU false) (iQ (by omega)) (Nat.le_of_ble_eq_true rfl) rfl) ?_
 refine aJ 11 ?_;refine WO.two (i:=12) (j:=14) (by kernel_rfl) ?_ ?_
 ·refine dC 12 rfl (mM (Qn.of (p:=(aD rs (y)).t) (by assumption)) (Qn.of (p:=m) (by assumption))) pJ ⟨aB rfl,aB rfl,rfl⟩ (qF (.of ((aD rs (y)).t-m))) ?_
  refine df 13 ?_;refine eO (key:=4) 14 (by kernel_rfl) rfl rfl aA rfl ⟨rfl,rfl,rfl,trivial⟩ ?_
  refine dst 15 ?_;refine aK ?_;refine sq ?_;refine rd [0,3,4] (fun i=>[].contains i) mixed ?_
  refine dv 0 ?_;refine dv 1 ?_;refine dv 2 ?_;refine dv 3 ?_;refine dv 4 ?_;refine aJ 6 ?_;refine dv 8 ?_;refine aJ 9 ?_
  refine WO.one (by kernel_rfl) (NR 5 (jE (f:=(cF false)) (z:=24) (o:=8) (us:=(Fr4.of (aD rs (y)).u).tr false) (dU false) (iQ (by omega)) (Nat.le_of_ble_eq_true rfl) rfl) ?_)
  refine aF 7 rfl (pW (Qn.of (p:=(aD rs (y)).u) (by assumption)) (Qn.of (p:=m) (by assumption))) sS ⟨aB rfl,aB rfl,rfl⟩ (qF (.of ((aD rs (y)).u+m))) ?_
  refine dv 10 ?_;refine dv 11 ?_
  refine yW 12 (nB (xs:=rs) (k:=y) (x:=(aD rs (y))) (f:=(cF false)) (z:=24) (o:=8) (x':=(⟨(aD rs (y)).l,(aD rs (y)).m,((aD rs (y)).u+m),(aD rs (y)).t,(aD rs (y)).e,(aD rs (y)).c⟩:Rw)) (us:=(Fr4.of ((aD rs (y)).u+m)).tr false) (dU false) (iQ (by omega)) (Nat.le_of_ble_eq_true rfl) rfl) (qD (xs:=rs) (k:=y) (f:=(cF false)) (z:=24) (o:=8) (us:=(Fr4.of ((aD rs (y)).u+m)).tr false) (dU false) (by omega) (Nat.le_of_ble_eq_true rfl)) ?_
  refine dv 13 ?_;refine dv 14 ?_
  refine yW 15 (nB (xs:=(rs.set (y) (⟨(aD rs (y)).l,(aD rs (y)).m,((aD rs (y)).u+m),(aD rs (y)).t,(aD rs (y)).e,(aD rs (y)).c⟩:Rw))) (k:=y) (x:=(⟨(aD rs (y)).l,(aD rs (y)).m,((aD rs (y)).u+m),(aD rs (y)).t,(aD rs (y)).e,(aD rs (y)).c⟩:Rw)) (f:=(cF false)) (z:=24) (o:=12) (x':=(⟨(aD rs (y)).l,(aD rs (y)).m,((aD rs (y)).u+m),((aD rs (y)).t-m),(aD rs (y)).e,(aD rs (y)).c⟩:Rw)) (us:=(Fr4.of ((aD rs (y)).t-m)).tr false) (dU false) (List.getElem?_set_self (by omega)) (Nat.le_of_ble_eq_true rfl) rfl) (qD (xs:=(rs.set (y) (⟨(aD rs (y)).l,(aD rs (y)).m,((aD rs (y)).u+m),(aD rs (y)).t,(aD rs (y)).e,(aD rs (y)).c⟩:Rw))) (k:=y) (f:=(cF false)) (z:=24) (o:=12) (us:=(Fr4.of ((aD rs (y)).t-m)).tr false) (dU false) (by simp only[List.length_set];omega) (Nat.le_of_ble_eq_true rfl)) ?_
  refine aK ?_;refine rd [0,3,4] (fun i=>[12].contains i) mixed ?_
  refine dv 0 ?_;refine dv 1 ?_;refine dv 2 ?_;refine dv 3 ?_;refine dv 4 ?_;refine aJ 5 ?_;refine aJ 6 ?_
  refine fJ (key:=5) 7 (by kernel_rfl) rfl rfl aA rfl ⟨rfl,rfl,rfl,trivial⟩ ?_
  refine nJ (j:=6) (n:=us.length) (l:=Qk us) 8 rfl aA rfl rfl rfl (.sl rfl (Ql _)) (.sl rfl rfl rfl) rfl rfl (by omega) (by omega) rfl ⟨rfl,rfl,rfl,trivial⟩ rfl (by kernel_rfl) rfl ?_
  refine cN 9 (by kernel_rfl) rfl rfl aA rfl (by trivial) ?_ (fun h=>by first | rfl | cases h)
  refine cN 10 (by kernel_rfl) rfl rfl aA rfl (by trivial) ?_ (fun h=>by first | rfl | cases h)
  refine df 11 ?_;refine dst 12 ?_;refine aK ?_;have hp0:0<m:=(lY m).1 (by omega)
  have e1:wF rs y m=(rs.set y (⟨(aD rs y).l,(aD rs y).m,(aD rs y).u+m,(aD rs y).t-m,(aD rs y).e,(aD rs y).c⟩:Rw)):=if_pos hp0
  have e2:wG rs us v y m=us++[(⟨v,(y:Int),m,(aD rs y).t,(aD rs y).t-m⟩:Us)]:=if_pos hp0
  have e3:((rs.set (y) (⟨(aD rs (y)).l,(aD rs (y)).m,((aD rs (y)).u+m),(aD rs (y)).t,(aD rs (y)).e,(aD rs (y)).c⟩:Rw)).set (y) (⟨(aD rs (y)).l,(aD rs (y)).m,((aD rs (y)).u+m),((aD rs (y)).t-m),(aD rs (y)).e,(aD rs (y)).c⟩:Rw))=(rs.set y (⟨(aD rs y).l,(aD rs y).m,(aD rs y).u+m,(aD rs y).t-m,(aD rs y).e,(aD rs y).c⟩:Rw)):=by rw[List.set_set]
  refine wJ (jD (j:=0) (k:=1) (p:=0) (e:=66) (z:=24) (n:=rs.length) (trs:=(rs.set y (⟨(aD rs y).l,(aD rs y).m,(aD rs y).u+m,(aD rs y).t-m,(aD rs y).e,(aD rs y).c⟩:Rw)).flatMap (cF false)) (l':=cY M N (.t (.s true 66 24 (rs.length) ((rs.set y (⟨(aD rs y).l,(aD rs y).m,(aD rs y).u+m,(aD rs y).t-m,(aD rs y).e,(aD rs y).c⟩:Rw)).flatMap (cF false)))) (.sl 6 0 (us.length+1)) (.t L)) rfl rfl rfl (congrArg (fun l:List Rw=>some (⟨66,24,(l.flatMap (cF false)).map .t⟩:Ob)) e3) rfl (cC _ _ (by rw[dV,List.length_set])) (by rw[dV,List.length_set]) rfl) ?_
  refine wJ (jD (j:=0) (k:=6) (p:=1) (e:=46) (z:=14) (n:=us.length+1) (trs:=(us++[(⟨v,(y:Int),m,(aD rs y).t,(aD rs y).t-m⟩:Us)]).flatMap (dP false)) (l':=cY M N (.t (.s true 66 24 rs.length ((rs.set y (⟨(aD rs y).l,(aD rs y).m,(aD rs y).u+m,(aD rs y).t-m,(aD rs y).e,(aD rs y).c⟩:Rw)).flatMap (cF false)))) (.t (.s true 46 14 (us.length+1) ((us++[(⟨v,(y:Int),m,(aD rs y).t,(aD rs y).t-m⟩:Us)]).flatMap (dP false)))) (.t L)) rfl rfl rfl (congrArg (fun l:List AV=>some (⟨46,14,l⟩:Ob)) (Ml us (⟨v,(y:Int),m,(aD rs y).t,(aD rs y).t-m⟩:Us))) rfl (cC _ _ (by rw[jY,List.length_append];rfl)) (by rw[jY,List.length_append];rfl) rfl) ?_
  exact oE <| kK (lent':=[mF M N (wF rs y m) (wG rs us v y m) L]) (.inr rfl) rfl (Gh) (by decide) (fun _ h=>by cases h) ⟨⟨rfl,rfl⟩,trivial⟩ ⟨by unfold mF;rw[e1,e2,show dN true false (rs.set y (⟨(aD rs y).l,(aD rs y).m,(aD rs y).u+m,(aD rs y).t-m,(aD rs y).e,(aD rs y).c⟩:Rw))=.s true 66 24 rs.length ((rs.set y (⟨(aD rs y).l,(aD rs y).m,(aD rs y).u+m,(aD rs y).t-m,(aD rs y).e,(aD rs y).c⟩:Rw)).flatMap (cF false)) by rw[dN,List.length_set],show cP true false (us++[(⟨v,(y:Int),m,(aD rs y).t,(aD rs y).t-m⟩:Us)])=.s true 46 14 (us.length+1) ((us++[(⟨v,(y:Int),m,(aD rs y).t,(aD rs y).t-m⟩:Us)]).flatMap (dP false)) by rw[cP,List.length_append];rfl];rfl,trivial⟩ ⟨rfl,trivial⟩ (fun h=>by cases h) ⟨rfl,rfl⟩
 refine bM (key:=4) 14 rfl rfl aA rfl ⟨rfl,rfl,rfl,trivial⟩ ?_
 refine aF 12 rfl (mM (Qn.of (p:=(aD rs (y)).t) (by assumption)) (Qn.of (p:=m) (by assumption))) pJ ⟨aB rfl,aB rfl,rfl⟩ (qF (.of ((aD rs (y)).t-m))) ?_
 refine df 13 ?_;refine dst 15 ?_;refine aK ?_;refine sq ?_;refine rd [0,3,4] (fun i=>[].contains i) mixed ?_
 refine dv 0 ?_;refine dv 1 ?_;refine dv 2 ?_;refine dv 3 ?_;refine dv 4 ?_;refine aJ 6 ?_;refine dv 8 ?_;refine aJ 9 ?_
 refine WO.one (by kernel_rfl) (NR 5 (jE (f:=(cF false)) (z:=24) (o:=8) (us:=(Fr4.of (aD rs (y)).u).tr false) (dU false) (iQ (by omega)) (Nat.le_of_ble_eq_true rfl) rfl) ?_)
 refine aF 7 rfl (pW (Qn.of (p:=(aD rs (y)).u) (by assumption)) (Qn.of (p:=m) (by assumption))) sS ⟨aB rfl,aB rfl,rfl⟩ (qF (.of ((aD rs (y)).u+m))) ?_
 refine dv 10 ?_;refine dv 11 ?_
 refine yW 12 (nB (xs:=rs) (k:=y) (x:=(aD rs (y))) (f:=(cF false)) (z:=24) (o:=8) (x':=(⟨(aD rs (y)).l,(aD rs (y)).m,((aD rs (y)).u+m),(aD rs (y)).t,(aD rs (y)).e,(aD rs (y)).c⟩:Rw)) (us:=(Fr4.of ((aD rs (y)).u+m)).tr false) (dU false) (iQ (by omega)) (Nat.le_of_ble_eq_true rfl) rfl) (qD (xs:=rs) (k:=y) (f:=(cF false)) (z:=24) (o:=8) (us:=(Fr4.of ((aD rs (y)).u+m)).tr false) (dU false) (by omega) (Nat.le_of_ble_eq_true rfl)) ?_
 refine dv 13 ?_;refine dv 14 ?_
 refine yW 15 (nB (xs:=(rs.set (y) (⟨(aD rs (y)).l,(aD rs (y)).m,((aD rs (y)).u+m),(aD rs (y)).t,(aD rs (y)).e,(aD rs (y)).c⟩:Rw))) (k:=y) (x:=(⟨(aD rs (y)).l,(aD rs (y)).m,((aD rs (y)).u+m),(aD rs (y)).t,(aD rs (y)).e,(aD rs (y)).c⟩:Rw)) (f:=(cF false)) (z:=24) (o:=12) (x':=(⟨(aD rs (y)).l,(aD rs (y)).m,((aD rs (y)).u+m),((aD rs (y)).t-m),(aD rs (y)).e,(aD rs (y)).c⟩:Rw)) (us:=(Fr4.of ((aD rs (y)).t-m)).tr false) (dU false) (List.getElem?_set_self (by omega)) (Nat.le_of_ble_eq_true rfl) rfl) (qD (xs:=(rs.set (y) (⟨(aD rs (y)).l,(aD rs (y)).m,((aD rs (y)).u+m),(aD rs (y)).t,(aD rs (y)).e,(aD rs (y)).c⟩:Rw))) (k:=y) (f:=(cF false)) (z:=24) (o:=12) (us:=(Fr4.of ((aD rs (y)).t-m)).tr false) (dU false) (by simp only[List.length_set];omega) (Nat.le_of_ble_eq_true rfl)) ?_
 refine aK ?_;refine rd [0,3,4] (fun i=>[12].contains i) mixed ?_
 refine dv 0 ?_;refine dv 1 ?_;refine dv 2 ?_;refine dv 3 ?_;refine dv 4 ?_;refine aJ 5 ?_;refine aJ 6 ?_
 refine fJ (key:=5) 7 (by kernel_rfl) rfl rfl aA rfl ⟨rfl,rfl,rfl,trivial⟩ ?_
 refine nJ (j:=6) (n:=us.length) (l:=Qk us) 8 rfl aA rfl rfl rfl (.sl rfl (Ql _)) (.sl rfl rfl rfl) rfl rfl (by omega) (by omega) rfl ⟨rfl,rfl,rfl,trivial⟩ rfl (by kernel_rfl) rfl ?_
 refine cN 9 (by kernel_rfl) rfl rfl aA rfl (by trivial) ?_ (fun h=>by first | rfl | cases h)
 refine cN 10 (by kernel_rfl) rfl rfl aA rfl (by trivial) ?_ (fun h=>by first | rfl | cases h)
 refine df 11 ?_;refine dst 12 ?_;refine aK ?_;have hp0:0<m:=(lY m).1 (by omega)
 have e1:wF rs y m=(rs.set y (⟨(aD rs y).l,(aD rs y).m,(aD rs y).u+m,(aD rs y).t-m,(aD rs y).e,(aD rs y).c⟩:Rw)):=if_pos hp0
 have e2:wG rs us v y m=us++[(⟨v,(y:Int),m,(aD rs y).t,(aD rs y).t-m⟩:Us)]:=if_pos hp0
 have e3:((rs.set (y) (⟨(aD rs (y)).l,(aD rs (y)).m,((aD rs (y)).u+m),(aD rs (y)).t,(aD rs (y)).e,(aD rs (y)).c⟩:Rw)).set (y) (⟨(aD rs (y)).l,(aD rs (y)).m,((aD rs (y)).u+m),((aD rs (y)).t-m),(aD rs (y)).e,(aD rs (y)).c⟩:Rw))=(rs.set y (⟨(aD rs y).l,(aD rs y).m,(aD rs y).u+m,(aD rs y).t-m,(aD rs y).e,(aD rs y).c⟩:Rw)):=by rw[List.set_set]
 refine wJ (jD (j:=0) (k:=1) (p:=0) (e:=66) (z:=24) (n:=rs.length) (trs:=(rs.set y (⟨(aD rs y).l,(aD rs y).m,(aD rs y).u+m,(aD rs y).t-m,(aD rs y).e,(aD rs y).c⟩:Rw)).flatMap (cF false)) (l':=cY M N (.t (.s true 66 24 (rs.length) ((rs.set y (⟨(aD rs y).l,(aD rs y).m,(aD rs y).u+m,(aD rs y).t-m,(aD rs y).e,(aD rs y).c⟩:Rw)).flatMap (cF false)))) (.sl 6 0 (us.length+1)) (.t L)) rfl rfl rfl (congrArg (fun l:List Rw=>some (⟨66,24,(l.flatMap (cF false)).map .t⟩:Ob)) e3) rfl (cC _ _ (by rw[dV,List.length_set])) (by rw[dV,List.length_set]) rfl) ?_
 refine wJ (jD (j:=0) (k:=6) (p:=1) (e:=46) (z:=14) (n:=us.length+1) (trs:=(us++[(⟨v,(y:Int),m,(aD rs y).t,(aD rs y).t-m⟩:Us)]).flatMap (dP false)) (l':=cY M N (.t (.s true 66 24 rs.length ((rs.set y (⟨(aD rs y).l,(aD rs y).m,(aD rs y).u+m,(aD rs y).t-m,(aD rs y).e,(aD rs y).c⟩:Rw)).flatMap (cF false)))) (.t (.s true 46 14 (us.length+1) ((us++[(⟨v,(y:Int),m,(aD rs y).t,(aD rs y).t-m⟩:Us)]).flatMap (dP false)))) (.t L)) rfl rfl rfl (congrArg (fun l:List AV=>some (⟨46,14,l⟩:Ob)) (Ml us (⟨v,(y:Int),m,(aD rs y).t,(aD rs y).t-m⟩:Us))) rfl (cC _ _ (by rw[jY,List.length_append];rfl)) (by rw[jY,List.length_append];rfl) rfl) ?_
 exact oE <| kK (lent':=[mF M N (wF rs y m) (wG rs us v y m) L]) (.inr rfl) rfl (Gh) (by decide) (fun _ h=>by cases h) ⟨⟨rfl,rfl⟩,trivial⟩ ⟨by unfold mF;rw[e1,e2,show dN true false (rs.set y (⟨(aD rs y).l,(aD rs y).m,(aD rs y).u+m,(aD rs y).t-m,(aD rs y).e,(aD rs y).c⟩:Rw))=.s true 66 24 rs.length ((rs.set y (⟨(aD rs y).l,(aD rs y).m,(aD rs y).u+m,(aD rs y).t-m,(aD rs y).e,(aD rs y).c⟩:Rw)).flatMap (cF false)) by rw[dN,List.length_set],show cP true false (us++[(⟨v,(y:Int),m,(aD rs y).t,(aD rs y).t-m⟩:Us)])=.s true 46 14 (us.length+1) ((us++[(⟨v,(y:Int),m,(aD rs y).t,(aD rs y).t-m⟩:Us)]).flatMap (dP false)) by rw[cP,List.length_append];rfl];rfl,trivial⟩ ⟨rfl,trivial⟩ (fun h=>by cases h) ⟨rfl,rfl⟩
theorem Nk {M:Mx}{N n y:Nat}{U:List Us}{e c:Nat→Rat}(hOk:M.Ok N) (hI:M.Iv N U) (hy:y<n) (hn:n≤N){L:Tr}:aE false Tryz.prog 124 [⟨92,0,cY M N (.t (dN true false (M.rows U e c n))) (.t (cP true false U)) (.t L)⟩] [.one (.pt 0 0),.one (tv (.int .i64 ((y:Nat):Int)))] (Rt [⟨92,0,cY M N (.t (dN true false (M.rows U e c n))) (.t (cP true false U)) (.t L)⟩] (qF (.of (M.room U y)))):=by
 have hN:=hOk.n
 have h:=OH (M:=M) (N:=N) (y:=y) (rs:=M.rows U e c n) (us:=U) (L:=L) (by rw[dK];exact hy) (by omega) ((hOk.sz_ring (by omega)).mono (by omega)) (by rw[iP hy];exact(hOk.sz_lim (by omega)).mono (by omega)) (by rw[iP hy];exact(hI.sz_in hOk (by omega)).mono (by omega)) (by rw[dK];omega) (by omega)
 rw[iP hy]at h
 exact h
theorem qU {M:Mx}{N n y:Nat}{U:List Us}{e c:Nat→Rat}(hOk:M.Ok N) (hI:M.Iv N U) (hy:y<n) (hn:n≤N){o1:Lt}(ho1:refCs 2 o1.l=true):aE false Tryz.prog 124 [⟨92,0,cY M N (.t (dN true false (M.rows U e c n))) (.t (cP true false U)) (.pt 1 0)⟩,o1] [.one (.pt 0 0),.one (tv (.int .i64 ((y:Nat):Int)))] (Rt [⟨92,0,cY M N (.t (dN true false (M.rows U e c n))) (.t (cP true false U)) (.pt 1 0)⟩,o1] (qF (.of (M.room U y)))):=by
 have hN:=hOk.n
 have h:=IB (M:=M) (N:=N) (y:=y) (rs:=M.rows U e c n) (us:=U) ho1 (by rw[dK];exact hy) (by omega) ((hOk.sz_ring (by omega)).mono (by omega)) (by rw[iP hy];exact(hOk.sz_lim (by omega)).mono (by omega)) (by rw[iP hy];exact(hI.sz_in hOk (by omega)).mono (by omega)) (by rw[dK];omega) (by omega)
 rw[iP hy]at h
 exact h
theorem wY {M:Mx}{N n y:Nat}{U:List Us}{e c:Nat→Rat}(hOk:M.Ok N) (hI:M.Iv N U) (hy:y<n) (hn:n≤N){v:Int}{m:Rat}{L:Tr}(hm:Sz 330 m) (hU:U.length≤2000):aE false Tryz.prog 125 [mF M N (M.rows U e c n) U L] [.one (.pt 0 0),.one (tv (.int .i64 v)),.one (tv (.int .i64 ((y:Nat):Int))),qF (.of m)] (Rt [mF M N (M.rows (M.us U v y m) e c n) (M.us U v y m) L] (.tup [])):=by
 have hN:=hOk.n
 have h:=SK (M:=M) (N:=N) (y:=y) (v:=v) (m:=m) (rs:=M.rows U e c n) (us:=U) (L:=L) (by rw[dK];exact hy) (hm.mono (by omega)) (by rw[iP hy];exact(hI.sz_in hOk (by omega)).mono (by omega)) (by rw[iP hy];exact(hI.sz_tax hOk (by omega)).mono (by omega)) (by rw[dK];omega) (by omega)
 rw[BL hy,BM hy]at h
 exact h
theorem qC (q:Rat):q.num.sign<0↔q<0:=by
 rw[Int.sign_neg_iff]
 have:=Rat.num_nonneg (q:=q)
 constructor
 ·intro h
  rcases Rat.le_total (a:=0) (b:=q)with h1 | h1
  ·have:=this.2 h1;omega
  rcases Rat.le_iff_lt_or_eq.1 h1 with h2 | h2
  ·exact h2
  rw[h2]at h;cases h
 intro h
 rcases Int.lt_or_le q.num 0 with h1 | h1
 ·exact h1
 have:=this.1 h1;grind
section
variable {M:Mx}{N v y n k:Nat}{U:List Us}{m:Rat}
open Mx
theorem Jd {v:Int}:(M.us U v y m).length≤U.length+1:=by
 unfold Mx.us Mx.app
 split <;> simp
theorem vE {α:Type}{f:List Us→α→List Us}:∀(I:List α) (U:List Us),(∀U x,(f U x).length≤U.length+1)→(I.foldl f U).length≤U.length+I.length
 | [],U,_=>Nat.le_refl _
 | x::I,U,h=>by
  have h1:=h U x
  have h2:=vE I (f U x) h
  rw[List.foldl_cons,List.length_cons]
  omega
theorem Ja:(M.back U y k).length≤U.length+k:=by
 have:=vE (f:=fun U x=>M.use U y x) (List.range' (y-M.b) k) U fun _ _=>Jd
 rwa[List.length_range']at this
theorem BQ (hb:M.b≤3) (hw:M.w≤40):(M.step U y).length≤U.length+40:=by
 unfold Mx.step
 split
 ·have:=Ja (M:=M) (U:=U) (y:=y) (k:=y-(y-M.b))
  omega
 have:=vE (f:=fun U v=>M.use U v y) (List.range' (y-M.w) (y-(y-M.w))) U fun _ _=>Jd
 rw[List.length_range']at this
 unfold Mx.fwd
 omega
theorem Em (hb:M.b≤3) (hw:M.w≤40):∀k,(M.run k).length≤40*k
 | 0=>Nat.le_refl _
 | k+1=>by
  have h1:=Em hb hw k
  have h2:=BQ (U:=M.run k) (y:=k) hb hw
  show(M.step (M.run k) k).length≤_
  omega
theorem Ed (h:y≠n):fM (M.use U v y) n=fM U n:=by
 by_cases hp:0<bC (M.left U v) [M.room U y]
 ·rw[qN hp];exact pZ h
 rw[pH hp]
theorem Bz {f:List Us→Nat→List Us}:∀(I:List Nat) (U:List Us),(∀U x,x∈I→fM (f U x) n=fM U n)→fM (I.foldl f U) n=fM U n
 | [],U,_=>rfl
 | x::I,U,h=>by
  rw[List.foldl_cons,Bz I _ fun U z hz=>h U z (List.mem_cons_of_mem _ hz)]
  exact h U x (List.mem_cons_self ..)
theorem BR (h:y<n):fM (M.step U y) n=fM U n:=by
 unfold Mx.step
 split
 ·exact Bz _ _ fun U x hx=>by have:=List.mem_range'_1.1 hx;exact Ed (by omega)
 exact Bz _ _ fun U x _=>Ed (by omega)
theorem Nt:∀{k:Nat},k≤n→fM (M.run k) n=0
 | 0,_=>rfl
 | k+1,h=>by
  show fM (M.step (M.run k) k) n=0
  rw[BR (by omega),Nt (by omega)]
theorem Ye {q:Rat}{y last:Int}{put:Bool}(h0:0≤q) (hl:put=true→last<y):dX (bD (Fr4.of q).s (Fr4.of q).x (Fr4.of q).t (Fr4.of q).y) q y last put=0:=by
 have h1:bD (Fr4.of q).s (Fr4.of q).x (Fr4.of q).t (Fr4.of q).y=true:=xD q
 have h2:¬q.num.sign<0:=by
  have:=Rat.num_nonneg.2 h0
  rw[Int.not_lt]
  exact Int.sign_nonneg_iff.2 this
 unfold dX
 rw[h1,if_neg (by simp),if_neg (by simp[h2])]
 cases put with
 | false=>rfl
 | true=>rw[if_neg (by have:=hl rfl;simp;omega)]
theorem EQ {q:Rat}{y:Int}{vs:List (Int×Rat)}:kV 0 q y vs=vs++(if 0<q then [(y,q)]else []):=by
 unfold kV
 rw[if_pos rfl]
 by_cases h:0<q
 ·rw[if_pos (decide_eq_true ((lY q).2 h)),if_pos h]
 rw[if_neg (by simpa using fun h9=>h ((lY q).1 h9)),if_neg h,List.append_nil]
theorem Ty:wl M U [v]=if 0<M.left U v then [((v:Int),M.left U v)]else []:=by
 by_cases h:0<M.left U v
 ·rw[kT h,if_pos h];rfl
 rw[mR h,if_neg h];rfl
theorem IC (h:M.left U v≤0):wl M U [v]=[]:=by rw[Ty,if_neg (by grind)]
theorem OX {I:List Nat}(h:∀i∈I,Sz 330 (M.left U i)):StOk (wl M U I) I.length (331*I.length):=by
 induction I with
 | nil=>exact⟨fun x hx=>(by cases hx),Nat.le_refl _,Nat.le_refl _⟩
 | cons i I ih=>
  obtain⟨h1,h2,h3⟩:=ih fun j hj=>h j (List.mem_cons_of_mem _ hj)
  by_cases hp:0<M.left U i
  ·rw[kT hp]
   have h4:=oW.1 (h i (List.mem_cons_self ..))
   refine⟨fun x hx=>?_,by simp only[List.length_cons];omega,?_⟩
   ·rcases List.mem_cons.1 hx with rfl | hx
    ·exact hp
    exact h1 x hx
   simp only[List.map_cons,gQ,List.sum_cons,List.length_cons,wt]at h3⊢
   omega
  rw[mR hp]
  exact⟨h1,by simp only[List.length_cons];omega,by simp only[List.length_cons];omega⟩
theorem wZ (fr:Int):∀(l:List (Int×Rat)) (p:Rat),(aW fr l p).2.1.length≤l.length
 | [],_=>Nat.le_refl _
 | x::l,p=>by
  by_cases h:fr≤x.1∧0<p
  ·rw[Bx h.1 h.2]
   have:=wZ fr l (p-bC x.2 [p])
   simp only[List.length_cons]
   omega
  rw[Fx h]
  have:=wZ fr l p
  simp only[List.length_cons]
  omega
theorem Ua {fr:Int}(hy:y<N):∀(I:List Nat) (U:List Us),M.Iv N U→M.Ok N→I.Nodup→(∀i∈I,fr≤(i:Int)∧i<N)→
  (∀x∈(aW fr (wl M U I) (M.room U y)).2.1,Sz 330 x.2∧∃i∈I,x.1=(i:Int))∧∀j,M.Iv N (((aW fr (wl M U I) (M.room U y)).2.1.take j).foldl (fun U x=>M.us U x.1 y x.2) U)
 | [],U,hI,_,_,_=>⟨fun x hx=>(by cases hx),fun j=>by rw[show(aW fr (wl M U []) (M.room U y)).2.1=[] from rfl,List.take_nil];exact hI⟩
 | i::I,U,hI,hOk,hn,hf=>by
  obtain⟨hi,hn⟩:=List.nodup_cons.1 hn
  have hf':∀i∈I,fr≤(i:Int)∧i<N:=fun j hj=>hf j (List.mem_cons_of_mem _ hj)
  obtain⟨hfi,hiN⟩:=hf i (List.mem_cons_self ..)
  have ne:∀j∈I,i≠j:=fun j hj e=>hi (e▸hj)
  have hI2:=hI.use hiN hy
  obtain⟨ih1,ih2⟩:=Ua (fr:=fr) hy I (M.use U i y) hI2 hOk hn hf'
  have hw:wl M (M.use U i y) I=wl M U I:=Ae fun j hj=>mL (ne j hj)
  rw[hw]at ih1 ih2
  by_cases hp:0<M.left U i
  ·rw[kT hp]
   by_cases hr:0<M.room U y
   ·have hm:0<bC (M.left U i) [M.room U y]:=by rw[Ad];split <;> assumption
    have hroom:M.room (M.use U i y) y=M.room U y-bC (M.left U i) [M.room U y]:=by rw[qN hm];exact Mk hm (rM _ _)
    rw[Bx (x:=((i:Int),M.left U i)) hfi hr]
    rw[hroom]at ih1 ih2
    dsimp only
    refine⟨fun x hx=>?_,fun j=>?_⟩
    ·rcases List.mem_cons.1 hx with rfl | hx
     ·exact⟨tJ (hI.sz_left hOk hiN) (fun q hq=>by rw[List.mem_singleton]at hq;rw[hq];exact hI.sz_room hOk hy),i,List.mem_cons_self ..,rfl⟩
     obtain⟨h1,j,hj,h2⟩:=ih1 x hx
     exact⟨h1,j,List.mem_cons_of_mem _ hj,h2⟩
    cases j with
    | zero=>exact hI
    | succ j=>
     rw[List.take_succ_cons,List.foldl_cons]
     exact ih2 j
   have hno:M.use U i y=U:=pH (by have:=rM (M.left U i) (M.room U y);grind)
   rw[Fx (x:=((i:Int),M.left U i)) (fun h=>hr h.2)]
   rw[hno]at ih1 ih2
   dsimp only
   refine⟨fun x hx=>?_,ih2⟩
   obtain⟨h1,j,hj,h2⟩:=ih1 x hx
   exact⟨h1,j,List.mem_cons_of_mem _ hj,h2⟩
  have hno:M.use U i y=U:=pH (by have:=rL (M.left U i) (M.room U y);grind)
  rw[hno]at ih1 ih2
  rw[mR hp]
  refine⟨fun x hx=>?_,ih2⟩
  obtain⟨h1,j,hj,h2⟩:=ih1 x hx
  exact⟨h1,j,List.mem_cons_of_mem _ hj,h2⟩
def Mx.ex (M:Mx) (k:Nat) (i:Nat):Rat:=if i+M.w<k then M.left (M.run k) i else 0
def Mx.cl (M:Mx) (N:Nat) (i:Nat):Rat:=if i+M.w<N then 0 else M.left (M.run N) i
def eG (xs:List (Int×Rat)) (e:Nat→Rat) (i:Nat):Rat:=match xs.find? (fun x=>decide (x.1=(i:Int)))with
 | some x=>x.2
 | none=>e i
theorem Qr {J:List Nat}{e:Nat→Rat}{i:Nat}:eG (wl M U J) e i=if i∈J∧0<M.left U i then M.left U i else e i:=by
 unfold eG
 induction J with
 | nil=>simp[wl]
 | cons j J ih=>
  by_cases hp:0<M.left U j
  ·rw[kT hp,List.find?_cons]
   by_cases hj:j=i
   ·subst hj
    simp[hp]
   have:decide (((j:Nat):Int)=((i:Nat):Int))=false:=decide_eq_false (by omega)
   simp only[this]
   rw[ih]
   simp[Ne.symm hj]
  rw[mR hp,ih]
  by_cases hj:j=i
  ·subst hj
   simp[hp]
  simp[Ne.symm hj]
theorem rV {xs:List (Int×Rat)}{x:Int×Rat}{e:Nat→Rat}{i:Nat}(hd:∀z∈xs,z.1≠x.1):eG (xs++[x]) e i=if x.1=(i:Int)then x.2 else eG xs e i:=by
 unfold eG
 rw[List.find?_append]
 by_cases h:x.1=(i:Int)
 ·have h1:xs.find? (fun z=>decide (z.1=(i:Int)))=none:=by
   rw[List.find?_eq_none]
   intro z hz h9
   exact hd z hz (by rw[of_decide_eq_true h9,h])
  rw[h1,if_pos h]
  simp[h]
 have h2:[x].find? (fun z=>decide (z.1=(i:Int)))=none:=by simp[h]
 rw[h2,if_neg h]
 cases xs.find? (fun z=>decide (z.1=(i:Int))) <;> rfl
theorem Cn {I:List Nat}(h:I.Nodup):((wl M U I).map Prod.fst).Nodup:=by
 induction I with
 | nil=>simp[wl]
 | cons i I ih=>
  obtain⟨hi,hn⟩:=List.nodup_cons.1 h
  by_cases hp:0<M.left U i
  ·rw[kT hp,List.map_cons,List.nodup_cons]
   refine⟨fun h9=>?_,ih hn⟩
   obtain⟨x,hx,e⟩:=List.mem_map.1 h9
   obtain⟨j,hj,rfl,_⟩:=xA hx
   dsimp only at e
   exact hi (by rwa[show i=j by omega])
  rw[mR hp]
  exact ih hn
theorem pS {xs:List (Int×Rat)}{k:Nat}(h:(xs.map Prod.fst).Nodup) (hk:k<xs.length):∀z∈xs.take k,z.1≠(aU xs k).1:=by
 intro z hz e
 obtain⟨j,hj,rfl⟩:=List.getElem_of_mem hz
 rw[List.length_take]at hj
 rw[List.getElem_take]at e
 have e2:aU xs k=xs[k]:=by
  have:=rK hk
  rw[List.getElem?_eq_getElem hk]at this
  injection this with this
  exact this.symm
 rw[e2]at e
 have h3:=List.pairwise_iff_getElem.1 h j k (by rw[List.length_map];omega) (by rw[List.length_map];omega) (by omega)
 rw[List.getElem_map,List.getElem_map]at h3
 exact h3 e
theorem OY:dT (fun x:Int×Rat=>decide (x.1<(y:Int)-(M.w:Int)+1)) (wl M U (M.I y++[y]))=wl M U (M.I (y+1)):=by
 unfold dT
 rw[Hh (p:=fun z=> !decide (z<(y:Int)-(M.w:Int)+1)),NZ]
def Mx.J (M:Mx) (y:Nat):List Nat:=(M.I y++[y]).filter fun(i:Nat)=> !(!decide ((i:Int)<(y:Int)-(M.w:Int)+1))
theorem OZ:dT (fun x:Int×Rat=> !decide (x.1<(y:Int)-(M.w:Int)+1)) (wl M U (M.I y++[y]))=wl M U (M.J y):=by
 unfold dT
 rw[Hh (p:=fun z=> !(!decide (z<(y:Int)-(M.w:Int)+1)))]
 rfl
theorem CC {i:Nat}:i∈M.J y↔i+M.w=y:=by
 unfold Mx.J
 rw[List.mem_filter,List.mem_append,rU,List.mem_singleton]
 simp only[Bool.not_not,decide_eq_true_eq]
 omega
theorem Nm:(M.J y).Nodup:=by
 refine List.Pairwise.filter _ ?_
 show List.Nodup _
 rw[List.nodup_append]
 refine⟨yU,by simp,fun a ha b hb=>?_⟩
 have:=rU.1 ha
 rw[List.mem_singleton]at hb
 omega
def Mx.lp (M:Mx):Nat→Int×Bool
 | 0=>(0,false)
 | y+1=>if M.inc y<0 then((y:Int),true)else M.lp y
theorem CD:∀y:Nat,(M.lp y).2=true→(M.lp y).1<(y:Int)
 | 0,h=>by cases h
 | y+1,h=>by
  unfold Mx.lp at h⊢
  split
  ·dsimp only;omega
  rename_i h9
  rw[if_neg h9]at h
  have:=CD y h
  omega
theorem EW (hI:M.Iv N (M.run (y+1))) (hy:y<N){i:Nat}(hi:i<y+1):eG (wl M (M.run (y+1)) (M.J y)) (M.ex y) i=M.ex (y+1) i:=by
 rw[Qr]
 simp only[CC]
 have h0:=(hI.v i (by omega)).1.1
 unfold Mx.ex
 by_cases h:i+M.w=y
 ·rw[if_neg (show¬i+M.w<y by omega),if_pos (show i+M.w<y+1 by omega)]
  by_cases hp:0<M.left (M.run (y+1)) i
  ·rw[if_pos ⟨h,hp⟩]
  rw[if_neg (fun h9=>hp h9.2)]
  grind
 rw[if_neg (fun h9=>h h9.1)]
 by_cases h2:i+M.w<y
 ·rw[if_pos h2,if_pos (by omega)]
  exact(BO h2).symm
 rw[if_neg h2,if_neg (by omega)]
theorem ET {e c:Nat→Rat}(hy:fM U y=0) (he:e y=0) (hc:c y=0):(⟨abv (-(M.inc y)),M.cap*abv (M.inc y),((0:Int):Rat),abv (M.inc y)-M.ring y,((0:Int):Rat),((0:Int):Rat)⟩:Rw)=M.row U e c y:=by
 unfold Mx.row Mx.los Mx.lim Mx.tax
 rw[hy,he,hc,show-(M.inc y)=0-M.inc y by grind,show M.ring y+0=M.ring y by grind]
 rfl
theorem Yi (h:M.inc y<0):wl M U (M.I y)++wl M (M.back U y k) [y]=wl M (M.back U y k) (M.I y++[y]):=by
 rw[Hg]
 congr 1
 refine Ae fun i hi=>?_
 have:=rU.1 hi
 exact(rP (by omega)).symm
theorem EU (h:¬M.inc y<0) (hl:M.left U y=M.los y) (hk:k≤y-(y-M.w)):wl M (M.fwd U y k) (M.I y)=wl M (M.fwd U y k) (M.I y++[y]):=by
 rw[Hg,IC (v:=y),List.append_nil]
 unfold Mx.fwd
 rw[lR _ _ (fun hm=>by have:=List.mem_range'_1.1 hm;omega),hl,Tj h]
 grind
theorem JX (hI:M.Iv N (M.run N)){i:Nat}(hi:i<N):eG (wl M (M.run N) (M.I N)) (fun _=>0) i=M.cl N i:=by
 rw[Qr]
 simp only[rU]
 have h0:=(hI.v i hi).1.1
 unfold Mx.cl
 by_cases h:i+M.w<N
 ·rw[if_pos h,if_neg (fun h9=>by omega)]
 rw[if_neg h]
 by_cases hp:0<M.left (M.run N) i
 ·rw[if_pos ⟨⟨hi,by omega⟩,hp⟩]
 rw[if_neg (fun h9=>hp h9.2)]
 grind
def UsOk (U:List Us):Prop:=∀u∈U,Sz 700 u.n∧Sz 700 u.p∧Sz 700 u.q
theorem UsOk.use (h:UsOk U) (hI:M.Iv N U) (hOk:M.Ok N) (hv:v<N) (hy:y<N):UsOk (M.use U v y):=by
 by_cases hp:0<bC (M.left U v) [M.room U y]
 ·rw[qN hp]
  intro u hu
  rcases List.mem_append.1 hu with hu | hu
  ·exact h u hu
  rw[List.mem_singleton]at hu
  subst hu
  have h1:Sz 330 (bC (M.left U v) [M.room U y]):=tJ (hI.sz_left hOk hv) (fun q hq=>by rw[List.mem_singleton]at hq;rw[hq];exact hI.sz_room hOk hy)
  have h2:=hI.sz_tax hOk hy
  exact⟨h1.mono (by omega),h2.mono (by omega),(qS h2 h1).mono (by omega)⟩
 rw[pH hp]
 exact h
theorem UsOk.fold {f:List Us→Nat→List Us}(hOk:M.Ok N):∀(I:List Nat){U:List Us},UsOk U→M.Iv N U→(∀U x,x∈I→UsOk U→M.Iv N U→UsOk (f U x)∧M.Iv N (f U x))→UsOk (I.foldl f U)
 | [],_,h,_,_=>h
 | x::I,U,h,hI,hf=>by
  rw[List.foldl_cons]
  obtain⟨h1,h2⟩:=hf U x (List.mem_cons_self ..) h hI
  exact UsOk.fold hOk I h1 h2 fun U z hz=>hf U z (List.mem_cons_of_mem _ hz)
theorem UsOk.run (hOk:M.Ok N):∀{k:Nat},k≤N→UsOk (M.run k)
 | 0,_=>fun u hu=>by cases hu
 | k+1,hk=>by
  have h1:=UsOk.run hOk (k:=k) (by omega)
  have h2:=hOk.run (k:=k) (by omega)
  show UsOk (M.step (M.run k) k)
  unfold Mx.step
  split
  ·exact UsOk.fold hOk _ h1 h2 fun U x hx h hI=>by
    have:=List.mem_range'_1.1 hx
    exact⟨h.use hI hOk (by omega) (by omega),hI.use (by omega) (by omega)⟩
  exact UsOk.fold hOk _ h1 h2 fun U x hx h hI=>by
   have:=List.mem_range'_1.1 hx
   exact⟨h.use hI hOk (by omega) (by omega),hI.use (by omega) (by omega)⟩
theorem JY {e c:Nat→Rat}(hOk:M.Ok N) (hI:M.Iv N U) (hy:y<N) (he:Sz 330 (e y)) (hc:Sz 330 (c y)):Sz 330 (M.row U e c y).l∧Sz 330 (M.row U e c y).m∧Sz 330 (M.row U e c y).u∧Sz 330 (M.row U e c y).t∧Sz 330 (M.row U e c y).e∧Sz 330 (M.row U e c y).c:=
 ⟨hOk.sz_los hy,hOk.sz_lim hy,hI.sz_in hOk hy,hI.sz_tax hOk hy,he,hc⟩
theorem PD (hOk:M.Ok N) (hk:k≤N) (hy:y<N):Sz 330 (M.ex k y):=by
 unfold Mx.ex
 split
 ·exact(hOk.run hk).sz_left hOk hy
 exact(lC (z:=0) (by omega) (by omega)).mono (by omega)
theorem PE (hOk:M.Ok N) (hy:y<N):Sz 330 (M.cl N y):=by
 unfold Mx.cl
 split
 ·exact(lC (z:=0) (by omega) (by omega)).mono (by omega)
 exact(hOk.run (Nat.le_refl _)).sz_left hOk hy
theorem EV (h:k≤v):Je (M.run k) v=0:=by
 have:=BN (M:=M) h
 unfold Mx.left at this
 grind
end
theorem yS {y:Int}{a:Fr4}{p:Rat}(ha:Qn a p):aE true Tryz.prog 132 [] [.agg (((Tr.v (.int .i64 y)::a.tr false):List Tr).map .t)] (aO (.agg ((cI true (y,p)).map .t))):=by
 refine bF Tryz.func132 rfl Tryz.ntmps132 rfl aA rfl fun N w c0 h0=>?_
 refine sq ?_;refine rl ?_;refine bx 0 ?_;refine al 1 ?_;refine nl ?_;refine sq ?_;refine rd [0,1] (fun i=>[7].contains i) mixed ?_
 refine dv 0 ?_;refine aJ 1 ?_;refine dv 2 ?_;refine aJ 3 ?_;refine aF 4 rfl (lK (z:=0) (by omega) (by omega)) xM ⟨a1 rfl,rfl⟩ (qF (.of ((0:Int):Rat))) ?_
 refine jX 2 5 rfl (Ug ha) sS ⟨aB rfl,aB rfl,rfl⟩ ?_;refine df 6 ?_;refine dst 7 ?_;refine aK ?_;refine rt ?_
 exact en (.inl rfl) rfl (aP (.agg (.cons (.id rfl) (.cons (.id rfl) (.cons (.sl (trs:=aV (dg 4294967296 p.num.natAbs)) rfl rfl (bB _) (aZ _)) (.cons (.id rfl) (.cons (.sl (trs:=aV (dg 4294967296 p.den)) rfl rfl (bB _) (aZ _)) .nil))))))) (by decide) (fun _=>BJ (y,p)) rfl
theorem Tx {vs:List (Int×Rat)}{rest:List Tr}(hz:∀x∈vs,Sz 68719476736 x.2) (hl:vs.length≤1073741823):aE true Tryz.prog 88 [] [.one (.ef (sV 97 false vs::rest) 0)] (aO (.one (.t (sO 97 vs)))):=by
 refine bF Tryz.func88 rfl Tryz.ntmps88 rfl aA rfl fun N w c0 h0=>?_
 refine sq ?_;refine rl ?_;refine o1 ?_;refine nl ?_;refine sq ?_;refine rl ?_;refine o1 ?_;refine nl ?_;refine sq ?_;refine sq ?_;refine rl ?_;(iterate 3 refine o1 ?_)
 refine cR ([(sV 97 false vs)]) rfl ?_;refine o1 ?_;refine o1 ?_;refine nl ?_;refine bl ?_
 refine lp (γ:=Nat) (fun k=>bV [(3,.one (.sl 0 0 k)),(9,.one (.t (sV 97 false vs))),(10,.one (tv (.int .i64 ((vs.length:Nat):Int)))),(11,.one (tv (.int .i64 ((k:Nat):Int))))]) (fun k=>[({t:=97,z:=5,l:=oV (vs.take k)}:Ob)].map some) (fun k=>k≤vs.length) (fun k=>vs.length-k) 0 (Nat.zero_le _) ((nr (i:=3) 0 97 5 rfl rfl rfl rfl).trans (aG h0 [0] _ _ (by decide) ⟨rfl,rfl,rfl,rfl,trivial⟩ ⟨oe rfl rfl,rfl⟩)) fun k hk=>?_
 refine sq ?_;refine rl ?_;refine o1 ?_;refine nl ?_;refine sq ?_;refine bS rfl (fun h1=>?_) (fun h1=>?_)
 ·refine sk ?_;refine sq ?_;refine bl ?_;refine sq ?_;refine rl ?_;refine o1 ?_;refine cR (cI false (aU vs (k))) (tH false (by omega)) ?_
  refine al 1 ?_;refine st ?_;refine nl ?_;refine rl ?_;refine o1 ?_;refine ld ?_
  refine gY 2 (yS (y:=(aU vs (k)).1) (Qn.of (p:=(aU vs (k)).2) (hz _ (mT (by omega))))) Hr ⟨aB rfl,rfl⟩ ?_
  refine bs 4 ?_;refine kX (j:=5) aA rfl rfl rfl rfl (.sl rfl (by rw[yT,List.length_take,Nat.min_eq_left hk])) (.sl rfl rfl rfl) rfl rfl rfl (by omega) (by omega) ?_
  refine o1 ?_;refine nl ?_;refine rl ?_;refine o1 ?_;refine WL.cast (t:=20) (u':=.int .i64 ((k+1:Nat):Int)) rfl (aI (by omega)) ?_
  refine o1 ?_;refine nl ?_;have hst:oV (vs.take (k+1))=oV (vs.take k++[((aU vs k).1,(aU vs k).2)]):=by rw[kL (by omega)]
  exact⟨k+1,by omega,by omega,(SL (j:=5) (k1:=2) (k2:=3) (us:=vs.take k) rfl rfl rfl rfl rfl rfl).trans (aG h0 [5] _ _ (by decide) ⟨rfl,rfl,rfl,rfl,trivial⟩ ⟨aT (congrArg (fun l=>some (⟨97,5,l⟩:Ob)) hst.symm),rfl⟩)⟩
 refine ex ?_;refine sq ?_;refine rl ?_;refine o1 ?_;refine o1 ?_;refine nl ?_;refine rt ?_;have hkk:vs.take k=vs:=List.take_of_length_le (by omega)
 have hkn:k=vs.length:=by omega
 exact en (.inl rfl) rfl (aP (.one (.sl (trs:=(vs.take k).flatMap (cI true)) rfl rfl (by rw[List.take_of_length_le (by rw[yT,List.length_take];omega)];rfl) (by rw[bO,List.length_take,Nat.min_eq_left hk])))) (by decide) (fun _=>by rw[hkk];exact .inl ⟨rfl,Qh vs⟩) (by rw[hkk,hkn];rfl)
theorem JW {vs:List (Int×Rat)}{rest:List Tr}(hz:∀x∈vs,Sz 68719476736 x.2) (hl:vs.length≤1073741823):aE true Tryz.prog 38 [] [.one (.ef (sV 97 false vs::rest) 0)] (aO (.one (.t (sO 97 vs)))):=by
 refine bF Tryz.func38 rfl Tryz.ntmps38 rfl aA rfl fun N w c0 h0=>?_
 refine sq ?_;refine rl ?_;refine o1 ?_;refine nl ?_;refine sq ?_;refine sq ?_;refine rl ?_;refine o1 ?_;refine o1 ?_;refine nl ?_;refine jN rfl ?_;refine sk ?_;refine sq ?_;refine rl ?_
 (iterate 3 refine o1 ?_);refine gY 0 (Tx hz hl) JL ⟨Cg rfl .ef,rfl⟩ ?_;refine o1 ?_;refine nl ?_;refine rt ?_
 exact en (.inl rfl) rfl (aP (.one (.sl (trs:=vs.flatMap (cI true)) rfl rfl (cC _ _ (bO true vs)) (bO true vs)))) (by decide) (fun _=>HK _ _) rfl
theorem PC:aE true Tryz.prog 36 [] [] (aO (.one (.t (.p true 136 [sR 97 [],.v (.int .i64 0),.v (.bool false)])))):=by
 refine bF Tryz.func36 rfl Tryz.ntmps36 rfl aA rfl fun N w c0 h0=>?_
 refine sq ?_;refine rl ?_;refine o1 ?_;refine nl ?_;refine sq ?_;refine rl ?_;refine o1 ?_;refine bx 0 ?_
 refine WL.sub ((Uh (j:=0) (key:=1) (e:=97) (z:=5) rfl rfl rfl (.sl (.id (.id .nil)))).trans (jD (j:=0) (k:=1) (p:=0) (n:=0) (trs:=[]) rfl rfl rfl rfl rfl rfl rfl rfl)) ?_
 refine o1 ?_;refine nl ?_;refine rt ?_
 exact en (.inl rfl) rfl (aP (.one (.pt (k:=0) (trs:=[sR 97 [],.v (.int .i64 0),.v (.bool false)]) rfl))) (by decide) (fun _=>⟨rfl,.inl ⟨rfl,trivial⟩,trivial,trivial,trivial⟩) rfl
end Go.Proofs.YthoemjjmkgmnjaaGreat
