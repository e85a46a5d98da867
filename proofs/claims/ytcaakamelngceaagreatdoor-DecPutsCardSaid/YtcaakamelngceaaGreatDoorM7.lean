/- Part 7 of a proof: Big6 to A2. -/
import Derived.Test.YtcaakamelngceaaGreatDoorM6
import Derived.Test.YtcaakamelngceaaGreatDoorM1
import Derived.KernelRfl
import Derived.Test.YtcaakamelngceaaGreatDoorProg
import Derived.Test.YtcaakamelngceaaGreatDoorM4
import Derived.Test.YtcaakamelngceaaGreatDoorM5
import Derived.Shelf.Strings.Trim
import Derived.Shelf.Strings.SlTrimAscii
set_option maxRecDepth 100000
set_option linter.unusedVariables false
set_option linter.unusedSimpArgs false
namespace Go.Proofs.YtcaakamelngceaaGreatDoor
open Go Go.RowKit
theorem Tg {u:Nat}(h:u<18446744073709551616):dg 4294967296 u=trim [u%4294967296,u/4294967296]:=by
 have e:vl 4294967296 [u%4294967296,u/4294967296]=u:=by
  simp only[vl]
  omega
 have hl:Lim 4294967296 [u%4294967296,u/4294967296]:=by
  intro x hx
  simp at hx
  omega
 rw[←dS (by omega) hl,e]
theorem Hp (w:World) (x y:Nat) (hx:x<4294967296) (hy:y<4294967296) (e:TypeId):U32 (w.alloc (.cells #[.int .u32 (x:Int),.int .u32 (y:Int)] e)) (w.alloc (.cells #[.int .u32 (x:Int),.int .u32 (y:Int)] e)).heap.size (some ⟨w.heap.size,0,none⟩) 2 2 [x,y]:=by
 refine⟨⟨rfl,Nat.le_refl _,by omega,fun _=>⟨⟨w.heap.size,0,none⟩,rfl,by simp,fun k u hk=>?_⟩⟩,fun z hz=>by simp at hz;omega⟩
 match k with
 | 0=>
  have e1:(⟨w.heap.size,0,none⟩:Addr).add 0=⟨w.heap.size,0,none⟩:=rfl
  rw[e1,lI _ _ _ 0 rfl]
  simpa[fA]using hk
 | 1=>
  have e1:(⟨w.heap.size,0,none⟩:Addr).add 1=⟨w.heap.size,1,none⟩:=rfl
  rw[e1,lI _ _ _ 1 rfl]
  simpa[fA]using hk
 | k+2=>simp[fA]at hk
set_option maxHeartbeats 2000000 in
theorem FT (z:Int) (w:World) (h1:-9223372036854775808≤z) (h2:z≤9223372036854775807):
  Calls Tryz.prog 62 #[.int .i64 z] w (FS z w):=by
 by_cases hz:z<0
 ·have e0:IntKind.u64.wrap (-IntKind.u64.wrap z)=(z.natAbs:Int):=by
   rw[IntKind.wrap_u64,IntKind.wrap_u64]
   omega
  have e1:IntKind.u64.wrap (-IntKind.u64.wrap z)%4294967296=((z.natAbs%4294967296:Nat):Int):=by rw[e0];omega
  have e2:IntKind.u64.wrap (-IntKind.u64.wrap z)/4294967296%4294967296=((z.natAbs/4294967296:Nat):Int):=by rw[e0];omega
  have E1:=Lib.hid e1
  have E2:=Lib.hid e2
  clear e0 e1 e2
  go_enter Tryz.func62,Tryz.ntmps62
  go_upto_region 1 with fail
  refine Zz (fun W0=>Hld w.heap.size w w.heap.size w.heap.size 2 W0 W0) ?_ ?_
  ·refine⟨by(repeat (first | exact Below.refl _ _ | assumption | refine Below.drew ?_ | refine Below.setCell ?_ (by first | exact Nat.le_refl _ | (simp;done) | (simp;omega) | omega) _ | refine Below.alloc ?_ (by first | exact Nat.le_refl _ | exact Below.size (by assumption) | (simp;done) | (simp;omega) | omega) _)),by simp,by simp,by omega,by omega,fun _ _ _ _=>rfl,fun o ho=>?_⟩
   match o,ho with
   | 0,_=>constructor <;> go_simp
   | 1,_=>constructor <;> go_simp
  intro W0 hH0
  go_wp2_with fail
  rw[E1.out,E2.out]
  refine(eK _ 2 2 [z.natAbs%4294967296,z.natAbs/4294967296] _ (Hp W0 _ _ (by omega) (by omega) _) (by omega)).mono ?_
  rintro e w1 ⟨A1,n1,c1,rfl,h3,hb1⟩
  rw[←Tg (by omega)]at h3
  have hH1:=(hH0.alloc _).call hb1
  have h3:=h3.base_le (hH0.alloc _).base
  have hl3:=h3.len
  have hcap3:=h3.u32.cap
  have hbig3:=h3.u32.big
  have HL3:=Lib.hid hl3
  clear hl3
  go_wp2_with fail
  refine(zJ _ A1 n1 c1 (by omega) _).mono ?_
  rintro e w2 ⟨rfl,hb2⟩
  rw[zI HL3.out,show bG true z.natAbs=z by unfold bG;simp;omega]
  have h3:=h3.over hb2
  have hH2:=hH1.call hb2
  obtain⟨v0,hv0⟩:=hH2.res 0 (by omega)
  obtain⟨v1,hv1⟩:=hH2.res 1 (by omega)
  have hf0:=hH2.fro 0 (by omega)
  have hf1:=hH2.fro 1 (by omega)
  go_wp2_with fail
  refine bodyPost_ret (v:=.agg #[.bool (aL z),.slice A1 n1 c1]) (by simp[results,Tryz.results62,go_sem,World.cell?_setCell_other,hv0,hv1]) rfl ⟨A1,n1,c1,rfl,?_,?_⟩
  ·refine Own.base_le (((h3.setLow ?_ _).setLow ?_ _)) (by omega) <;> simp
  (have hb:=hH2.bel;(repeat (first | exact Below.refl _ _ | assumption | refine Below.drew ?_ | refine Below.setCell ?_ (by first | exact Nat.le_refl _ | (simp;done) | (simp;omega) | omega) _ | refine Below.alloc ?_ (by first | exact Nat.le_refl _ | exact Below.size (by assumption) | (simp;done) | (simp;omega) | omega) _)))
 have e1:z%4294967296=((z.natAbs%4294967296:Nat):Int):=by omega
 have e2:z/4294967296=((z.natAbs/4294967296:Nat):Int):=by omega
 have E1:=Lib.hid e1
 have E2:=Lib.hid e2
 clear e1 e2
 go_enter Tryz.func62,Tryz.ntmps62
 go_upto_region 1 with fail
 refine Zz (fun W0=>Hld w.heap.size w w.heap.size w.heap.size 2 W0 W0) ?_ ?_
 ·refine⟨by(repeat (first | exact Below.refl _ _ | assumption | refine Below.drew ?_ | refine Below.setCell ?_ (by first | exact Nat.le_refl _ | (simp;done) | (simp;omega) | omega) _ | refine Below.alloc ?_ (by first | exact Nat.le_refl _ | exact Below.size (by assumption) | (simp;done) | (simp;omega) | omega) _)),by simp,by simp,by omega,by omega,fun _ _ _ _=>rfl,fun o ho=>?_⟩
  match o,ho with
  | 0,_=>constructor <;> go_simp
  | 1,_=>constructor <;> go_simp
 intro W0 hH0
 go_wp2_with fail
 rw[E1.out,E2.out]
 refine(eK _ 2 2 [z.natAbs%4294967296,z.natAbs/4294967296] _ (Hp W0 _ _ (by omega) (by omega) _) (by omega)).mono ?_
 rintro e w1 ⟨A1,n1,c1,rfl,h3,hb1⟩
 rw[←Tg (by omega)]at h3
 have hH1:=(hH0.alloc _).call hb1
 have h3:=h3.base_le (hH0.alloc _).base
 have hl3:=h3.len
 have hcap3:=h3.u32.cap
 have hbig3:=h3.u32.big
 have HL3:=Lib.hid hl3
 clear hl3
 go_wp2_with fail
 refine(zJ _ A1 n1 c1 (by omega) _).mono ?_
 rintro e w2 ⟨rfl,hb2⟩
 rw[zI HL3.out,show bG false z.natAbs=z by unfold bG;simp;omega]
 have h3:=h3.over hb2
 have hH2:=hH1.call hb2
 obtain⟨v0,hv0⟩:=hH2.res 0 (by omega)
 obtain⟨v1,hv1⟩:=hH2.res 1 (by omega)
 have hf0:=hH2.fro 0 (by omega)
 have hf1:=hH2.fro 1 (by omega)
 go_wp2_with fail
 refine bodyPost_ret (v:=.agg #[.bool (aL z),.slice A1 n1 c1]) (by simp[results,Tryz.results62,go_sem,World.cell?_setCell_other,hv0,hv1]) rfl ⟨A1,n1,c1,rfl,?_,?_⟩
 ·refine Own.base_le (((h3.setLow ?_ _).setLow ?_ _)) (by omega) <;> simp
 (have hb:=hH2.bel;(repeat (first | exact Below.refl _ _ | assumption | refine Below.drew ?_ | refine Below.setCell ?_ (by first | exact Nat.le_refl _ | (simp;done) | (simp;omega) | omega) _ | refine Below.alloc ?_ (by first | exact Nat.le_refl _ | exact Below.size (by assumption) | (simp;done) | (simp;omega) | omega) _)))
def cW (na:Bool) (xs:List Nat) (nb:Bool) (ys:List Nat):Bool:=cK na xs&&cK nb ys&&decide (0<cY nb ys)&&(Int.gcd (cY na xs) (cY nb ys)==1)
theorem vM {xs:List Nat}(hl:Lim 4294967296 xs){neg:Bool}:(dg 4294967296 (cY neg xs).natAbs).length≤xs.length:=by
 cases h:cK neg xs
 ·rw[Tf h,show dg 4294967296 (Int.natAbs 0)=[] from(dM (by omega)).2 rfl]
  simp
 rw[nT hl h]
 exact Nat.le_refl _
def uK (na:Bool) (xs:List Nat) (nb:Bool) (ys:List Nat):Rat:=if cW na xs nb ys then Rat.divInt (cY na xs) (cY nb ys)else 0
theorem uL {na nb:Bool}{xs ys:List Nat}(h:cW na xs nb ys=true):cK na xs=true∧cK nb ys=true∧0<cY nb ys∧Int.gcd (cY na xs) (cY nb ys)=1:=by
 unfold cW at h
 simp only[Bool.and_eq_true,decide_eq_true_eq,beq_iff_eq]at h
 exact⟨h.1.1.1,h.1.1.2,h.1.2,h.2⟩
theorem Pi {a b:Int}(h0:0<b) (hg:Int.gcd a b=1):(Rat.divInt a b).num=a:=by
 rw[Rat.num_divInt,Int.gcd_comm,hg,Int.sign_eq_one_of_pos h0]
 simp
theorem Pj {a b:Int}(h0:0<b) (hg:Int.gcd a b=1):((Rat.divInt a b).den:Int)=b:=by
 rw[Rat.den_divInt,Int.gcd_comm,hg,if_neg (by omega)]
 simp
 omega
theorem Md {na nb:Bool}{xs ys:List Nat}(h:cW na xs nb ys=true):(uK na xs nb ys).num=cY na xs:=by
 obtain⟨_,_,h3,h4⟩:=uL h
 unfold uK
 rw[if_pos h,Pi h3 h4]
theorem Me {na nb:Bool}{xs ys:List Nat}(h:cW na xs nb ys=true):((uK na xs nb ys).den:Int)=cY nb ys:=by
 obtain⟨_,_,h3,h4⟩:=uL h
 unfold uK
 rw[if_pos h,Pj h3 h4]
theorem Cj {na nb:Bool}{xs ys:List Nat}(h:cW na xs nb ys=false):uK na xs nb ys=0:=by
 unfold uK
 rw[h]
 rfl
def Sz (L:Nat) (q:Rat):Prop:=(dg 4294967296 q.num.natAbs).length≤L∧(dg 4294967296 q.den).length≤L
theorem DO:dg 4294967296 0=[]:=(dM (by omega)).2 rfl
theorem KJ {na nb:Bool}{xs ys:List Nat}{L:Nat}(hx:Lim 4294967296 xs) (hy:Lim 4294967296 ys) (h1:xs.length≤L) (h2:ys.length≤L) (h3:1≤L):Sz L (uK na xs nb ys):=by
 cases h:cW na xs nb ys
 ·rw[Cj h]
  refine⟨?_,?_⟩
  ·show(dg 4294967296 0).length≤L
   rw[DO]
   exact Nat.zero_le _
  show(dg 4294967296 1).length≤L
  exact h3
 refine⟨?_,?_⟩
 ·rw[Md h]
  exact Nat.le_trans (vM hx) h1
 rw[show(uK na xs nb ys).den=(cY nb ys).natAbs by rw[←Me h];simp]
 exact Nat.le_trans (vM hy) h2
theorem uW (n:Nat):aL (n:Int)=false:=by unfold aL;simp
theorem lL (k:Nat):cY false (dg 4294967296 k)=(k:Int):=by
 have h:=qX (k:Int)
 rwa[uW,Int.natAbs_natCast]at h
theorem lM {N D:Int}(h0:0<D):(Rat.divInt N D).num=N.fdiv (Int.gcd N D)∧((Rat.divInt N D).den:Int)=D.fdiv (Int.gcd N D):=by
 have hg:(0:Int)≤(Int.gcd N D:Int):=by omega
 rw[Int.fdiv_eq_ediv_of_nonneg _ hg,Int.fdiv_eq_ediv_of_nonneg _ hg,Rat.num_divInt,Rat.den_divInt,Int.gcd_comm D N,Int.sign_eq_one_of_pos h0,if_neg (by omega),Int.one_mul]
 refine⟨rfl,?_⟩
 rw[Int.natCast_ediv,Int.natAbs_of_nonneg (by omega)]
theorem El {N D:Int}(h0:D<0):(Rat.divInt N D).num=N.fdiv (-(Int.gcd N D:Int))∧((Rat.divInt N D).den:Int)=D.fdiv (-(Int.gcd N D:Int)):=by
 have hg:(0:Int)≤(Int.gcd N D:Int):=by omega
 have h:=lM (N:=-N) (D:=-D) (by omega)
 rw[Rat.neg_divInt_neg]at h
 have e:Int.gcd (-N) (-D)=Int.gcd N D:=by rw[Int.gcd_neg,Int.neg_gcd]
 rw[e]at h
 rw[h.1,h.2]
 refine⟨?_,?_⟩
 ·rw[←Int.neg_fdiv_neg,Int.neg_neg]
 rw[←Int.neg_fdiv_neg,Int.neg_neg]
theorem kK (a b:Nat):(dg 4294967296 (a*b)).length≤(dg 4294967296 a).length+(dg 4294967296 b).length:=by
 refine bN (by omega) ?_
 rw[Nat.pow_add]
 exact Nat.mul_lt_mul_of_lt_of_lt (mB (by omega)) (mB (by omega))
theorem Iy (a b:Int):(dg 4294967296 (a*b).natAbs).length≤(dg 4294967296 a.natAbs).length+(dg 4294967296 b.natAbs).length:=by
 rw[Int.natAbs_mul]
 exact kK _ _
theorem Iz (a b:Int){L:Nat}(ha:(dg 4294967296 a.natAbs).length≤L) (hb:(dg 4294967296 b.natAbs).length≤L):(dg 4294967296 (a+b).natAbs).length≤L+1:=by
 refine bN (by omega) ?_
 have h1:a.natAbs<4294967296^L:=Nat.lt_of_lt_of_le (mB (by omega)) (Nat.pow_le_pow_right (by omega) ha)
 have h2:b.natAbs<4294967296^L:=Nat.lt_of_lt_of_le (mB (by omega)) (Nat.pow_le_pow_right (by omega) hb)
 rw[Nat.pow_succ]
 generalize 4294967296^L=p at*
 omega
theorem Ut {p q:Rat}(h:p.den=q.den):Rat.divInt (p.num+q.num) (p.den:Int)=p+q:=by
 have hp:(p.den:Int)≠0:=by have:=p.den_nz;omega
 have e:=Rat.divInt_add_divInt p.num q.num hp hp
 have e1:=Rat.num_divInt_den p
 have e2:=Rat.num_divInt_den q
 rw[←h]at e2
 rw[e1,e2]at e
 rw[e,←Int.add_mul,Rat.divInt_mul_right hp]
theorem oU (p q:Rat):Rat.divInt (p.num*q.den+q.num*p.den) ((p.den:Int)*q.den)=p+q:=by
 have hp:(p.den:Int)≠0:=by have:=p.den_nz;omega
 have hq:(q.den:Int)≠0:=by have:=q.den_nz;omega
 have e:=Rat.divInt_add_divInt p.num q.num hp hq
 rw[Rat.num_divInt_den,Rat.num_divInt_den]at e
 exact e.symm
structure Lv where
 A:Option Addr
 n:Nat
 c:Nat
structure Zv where
 s:Bool
 A:Option Addr
 n:Nat
 c:Nat
structure Rv where
 s:Bool
 A:Option Addr
 n:Nat
 c:Nat
 t:Bool
 B:Option Addr
 m:Nat
 d:Nat
structure LimR (W:World) (N:Nat→Prop) (A:Option Addr) (n c:Nat) (xs:List Nat):Prop where
 len:xs.length=n
 cap:n≤c
 big:c≤9223372036854775807
 lim:Lim 4294967296 xs
 cell:0<n→∃ad,A=some ad∧N ad.block∧∀k u,(fA xs)[k]? =some u→W.cell? (ad.add k)=some u
section
variable {W W':World}{N N':Nat→Prop}{A:Option Addr}{n c:Nat}{xs:List Nat}
theorem LimR.u32 {B:Nat}(h:LimR W N A n c xs) (hN:∀b,N b→b<B):U32 W B A n c xs:=
 ⟨⟨by rw[iA,h.len,Nat.mul_one],h.cap,h.big,fun hn=>let ⟨ad,e,hb,hc⟩:=h.cell hn;⟨ad,e,hN _ hb,hc⟩⟩,h.lim⟩
end
theorem Bs (q:Rat):cW (aL q.num) (dg 4294967296 q.num.natAbs) false (dg 4294967296 q.den)=true:=by
 unfold cW
 have h1:=uJ q.num
 have h2:=uJ (q.den:Int)
 have h3:=qX q.num
 rw[uW,Int.natAbs_natCast]at h2
 have h4:=lL q.den
 rw[h1,h2,h3,h4]
 have hp:=q.den_pos
 have hg:Int.gcd q.num q.den=1:=q.reduced
 simp[hg,hp]
theorem KK (q:Rat):uK (aL q.num) (dg 4294967296 q.num.natAbs) false (dg 4294967296 q.den)=q:=by
 unfold uK
 rw[Bs,qX,lL]
 simp only[if_true]
 exact Rat.num_divInt_den q
theorem Own.blk {t:TypeId}{w:World}{base n c:Nat}{A:Option Addr}{xs:List Nat}(h:Own t w base A n c xs):∀b∈(Value.slice A n c).ownBlock.toList,base≤b∧b<w.heap.size:=by
 intro b hb
 rcases h.row.2 with⟨h2,_⟩ | ⟨g,cap,cur,hv,hb',hh,rest⟩
 ·rw[h2]at hb
  simp[Value.ownBlock]at hb
 rw[hv]at hb
 simp[Value.ownBlock]at hb
 subst hb
 exact⟨hb',(Array.getElem?_eq_some_iff.1 hh).1⟩
def mL (L:Nat) (k:Int):Prop:=(dg 4294967296 k.natAbs).length≤L
theorem mD {L:Nat}{q:Rat}(h:Sz L q):mL L (q.den:Int):=by
 unfold mL
 rw[Int.natAbs_natCast]
 exact h.2
section
variable {w:World}{r r':Rv}{p q:Rat}
end
section
variable {w:World}{z z':Zv}{k k':Int}
end
theorem jC {L M:Nat}{a b:Int}(ha:mL L a) (hb:mL M b):mL (L+M) (a*b):=Nat.le_trans (Iy a b) (Nat.add_le_add ha hb)
theorem Ja {a b:Int}(hb:0<b):(Rat.divInt a b).num.sign=a.sign:=by
 rw[(lM (N:=a) hb).1]
 have hg:0<Int.gcd a b:=Nat.gcd_pos_of_pos_right _ (by omega)
 have hd:((Int.gcd a b:Nat):Int)∣ a:=Int.gcd_dvd_left ..
 obtain⟨k,hk⟩:=hd
 generalize Int.gcd a b=g at*
 subst hk
 have h1:((g:Int)*k).fdiv g=k:=by
  rw[Int.fdiv_eq_ediv_of_nonneg _ (by omega)]
  exact Int.mul_ediv_cancel_left k (by omega)
 rw[h1,Int.sign_mul,Int.sign_eq_one_of_pos (show(0:Int)<g by omega),Int.one_mul]
theorem Qi (p q:Rat):(p.num*(q.den:Int)-q.num*(p.den:Int)).sign=(p-q).num.sign:=by
 have h:=oU p (-q)
 rw[Rat.neg_num,Rat.neg_den,Int.neg_mul,←Int.sub_eq_add_neg,←Rat.sub_eq_add_neg]at h
 rw[←h,Ja]
 exact Int.mul_pos (by have:=p.den_pos;omega) (by have:=q.den_pos;omega)
theorem iI {a:Rat}:a.num<0↔a<0:=by
 rw[Rat.lt_iff]
 simp
theorem Hq {a:Rat}:0<a.num↔0<a:=by
 rw[Rat.lt_iff]
 simp
theorem Sz.mono {L M:Nat}{q:Rat}(h:Sz L q) (hL:L≤M):Sz M q:=⟨Nat.le_trans h.1 hL,Nat.le_trans h.2 hL⟩
theorem iQ {a b:Int}{L M:Nat}(hb:0<b) (ha:mL L a) (hb':mL M b):(dg 4294967296 (Rat.divInt a b).num.natAbs).length≤L∧(dg 4294967296 (Rat.divInt a b).den).length≤M:=by
 have h1:=(lM (N:=a) hb)
 have hg:0<Int.gcd a b:=Nat.gcd_pos_of_pos_right _ (by omega)
 constructor
 ·refine Nat.le_trans (cF (by omega) ?_) ha
  rw[h1.1]
  have hd:((Int.gcd a b:Nat):Int)∣ a:=Int.gcd_dvd_left ..
  obtain⟨k,hk⟩:=hd
  generalize Int.gcd a b=g at*
  subst hk
  rw[Int.fdiv_eq_ediv_of_nonneg _ (by omega),Int.mul_ediv_cancel_left k (by omega),Int.natAbs_mul]
  exact Nat.le_mul_of_pos_left _ (by omega)
 refine Nat.le_trans (cF (by omega) ?_) hb'
 have h2:((Rat.divInt a b).den:Int)≤b:=by
  rw[h1.2,Int.fdiv_eq_ediv_of_nonneg _ (by omega)]
  exact Int.ediv_le_self _ (by omega)
 omega
theorem Qm {L M:Nat}{p q:Rat}(hp:Sz L p) (hq:Sz M q):Sz (L+M+1) (p+q):=by
 rw[←oU p q]
 have h1:=jC hp.1 (mD hq)
 have h2:=jC hq.1 (mD hp)
 have h3:=jC (mD hp) (mD hq)
 have h4:mL (L+M+1) (p.num*q.den+q.num*p.den):=Iz _ _ h1 (Nat.le_trans h2 (by omega))
 have h5:=iQ (Int.mul_pos (show(0:Int)<p.den by have:=p.den_pos;omega) (show(0:Int)<q.den by have:=q.den_pos;omega)) h4 h3
 exact⟨h5.1,Nat.le_trans h5.2 (by omega)⟩
theorem yJ {L:Nat}{p:Rat}(hp:Sz L p):Sz L (-p):=⟨by rw[Rat.neg_num,Int.natAbs_neg];exact hp.1,by rw[Rat.neg_den];exact hp.2⟩
theorem HR {L M:Nat}{p q:Rat}(hp:Sz L p) (hq:Sz M q):Sz (L+M+1) (p-q):=by
 rw[Rat.sub_eq_add_neg]
 exact Qm hp (yJ hq)
theorem cB {z:Int}(h1:-9223372036854775808≤z) (h2:z≤9223372036854775807):Sz 2 (z:Rat):=by
 refine⟨?_,?_⟩
 ·exact bN (by omega) (by show z.natAbs<_;omega)
 exact bN (by omega) (by show(1:Nat)<_;omega)
def aR (xs:List Nat):List Tr:=xs.map fun(n:Nat)=>.v (.int .u32 (n:Int))
def sU (o:Bool) (xs:List Nat):Tr:=.s o 115 1 xs.length (aR xs)
theorem gA (xs:List Nat):(aR xs).length=xs.length:=by simp[aR]
theorem IN (xs:List Nat):eG ((aR xs).map .t)=true:=by
 induction xs with
 | nil=>rfl
 | cons x xs ih=>simpa[aR,eG,mU]using ih
theorem Vy (xs:List Nat):cL ((aR xs).map .t)=true:=by
 induction xs with
 | nil=>rfl
 | cons x xs ih=>simpa[aR,cL,lone]using ih
theorem dU (xs:List Nat):NoFrL (aR xs):=by
 induction xs with
 | nil=>simp[aR,NoFrL]
 | cons x xs ih=>simpa[aR,NoFrL,kN]using ih
structure Fr4 where
 s:Bool
 x:List Nat
 t:Bool
 y:List Nat
namespace Fr4
def tr (o:Bool) (a:Fr4):List Tr:=[.v (.bool a.s),sU o a.x,.v (.bool a.t),sU o a.y]
def q (a:Fr4):Rat:=uK a.s a.x a.t a.y
def of (q:Rat):Fr4:=⟨aL q.num,dg 4294967296 q.num.natAbs,false,dg 4294967296 q.den⟩
def ok (a:Fr4):Prop:=Lim 4294967296 a.x∧Lim 4294967296 a.y∧a.x.length≤68719476736∧a.y.length≤68719476736
theorem q_of (q:Rat):(of q).q=q:=KK q
end Fr4
def qF (a:Fr4):FV:=.agg ((a.tr false).map .t)
def qO (q:Rat):FV:=.agg (((Fr4.of q).tr true).map .t)
theorem En (q:Rat):iM (qO q):=by
 simp only[iM,qO,mK,Fr4.tr,List.map_cons,List.map_nil,iP,oV,sU,kN]
 exact⟨trivial,.inl ⟨trivial,dU _⟩,trivial,.inl ⟨trivial,dU _⟩,trivial⟩
section
variable {W:World}{N:Nat→Prop}
theorem Bb {o:Bool}{xs:List Nat}{u:Value}(h:FR W N (sU o xs) u) (hl:Lim 4294967296 xs):∃A c,u=.slice A xs.length c∧LimR W N A xs.length c xs:=by
 simp only[sU,FR]at h
 obtain⟨A,c,rfl,h1,h2,h3,h4⟩:=h
 refine⟨A,c,rfl,rfl,h1,h2,hl,fun hn=>?_⟩
 rcases h4 with h4 | ⟨ad,rfl,h5,h6⟩
 ·omega
 refine⟨ad,rfl,h5,fun k u hk=>?_⟩
 simp only[fA,List.getElem?_map,Option.map_eq_some_iff]at hk
 obtain⟨m,hm,rfl⟩:=hk
 obtain⟨u,e1,e2⟩:=lJ h6 (j:=k) (x:=.v (.int .u32 (m:Int))) (by simp[aR,hm])
 simp only[FR]at e2
 rw[Nat.zero_add]at e1
 rw[e1,e2]
theorem qB {t:TypeId}{base n c:Nat}{A:Option Addr}{xs:List Nat}(h:Own t W base A n c xs):∃y:VT,y.val=.slice A n c∧OR W N (.s true t 1 xs.length (aR xs)) y∧y.ok W∧y.fp=(Value.slice A n c).ownBlock.toList:=by
 have hl:=h.len
 rcases h.row.2 with⟨h2,h3⟩ | ⟨g,cap,cur,hv,_,hg,hnc,hcm,hcs,htake⟩
 ·injection h2 with e1 e2 e3
  subst e1 e3
  subst h3
  have:xs=[]:=List.eq_nil_of_length_eq_zero hl
  subst this
  exact⟨.w (.slice none 0 0),rfl,by simp[OR,aR],by simp[VT.ok],by simp[VT.fp,Value.ownBlock]⟩
 injection hv with e1 e2 e3
 subst e1 e3
 have hor:ORL W N (aR xs) ((fA xs).map VT.w):=by
  clear hl htake h
  induction xs with
  | nil=>simp[aR,fA,ORL]
  | cons x xs ih=>simpa[aR,fA,ORL,OR]using ih
 refine⟨.s g c t 1 n ((fA xs).map .w),rfl,?_,?_,by simp[VT.fp,jD,Value.ownBlock]⟩
 ·simp only[OR]
  exact⟨trivial,hl.symm,trivial,trivial,hor⟩
 simp only[VT.ok]
 refine⟨⟨cur.toList.drop (n*1),?_,?_⟩,hnc,hcm,by simp[iA,hl],oZ _⟩
 ·rw[oY,←htake,List.take_append_drop]
  simpa using hg
 rw[oY,←htake,List.take_append_drop]
 simpa using hcs
end
section
variable {f:FuncId}{args:List FV}
theorem oB {N:Nat→Prop}{w:World}{cs:List Co}{us:List Value}(hL:Loc ((aK (bC []) cs).flatMap Res.S) w w (aK (bC []) cs) [(Rx [] cs args us).on N]):cs=[]∧cO w (fun b=>b<w.heap.size∧N b) [] args us:=by
 have h:=Sh.off (hL.sh 0 rfl)
 have hc:cs=[]:=List.eq_nil_of_length_eq_zero (by have:=h.1.1;simpa[bC]using this.symm)
 subst hc
 exact⟨rfl,jX (fun _ _=>rfl) (fun b hb=>⟨hb.1.1,hb.2⟩) .refl _ _ h.2⟩
theorem Ended.mk0 {fresh:Bool}{N:Nat→Prop}{M:List Nat}{w W:World}{R:List Lt→FV→Prop}{v:Value}{r:FV}{y:List VT}(hR:R [] r) (hb:Below w.heap.size w W) (hok:VT.okL W y) (hnd:(VT.fpL y).Nodup) (hfp:∀b∈VT.fpL y,w.heap.size≤b∧b<W.heap.size)
  (hro:RO W (fun b=>fresh=false∧(b<W.heap.size∧b∉VT.fpL y)∧(N b∨w.heap.size≤b)) [] r v y):Ended fresh N M w [] [] R (.returned v) W:=by
 refine⟨v,[],[],r,y,rfl,hR,rfl,fun _ _ _ h=>by simp at h,rfl,.refl,?_⟩
 refine⟨⟨hb.os,hb.tape,hb.output,hb.size,fun k hk _=>hb.block k hk⟩,fun q hq=>?_,fun b hb=>?_,by simpa[bC,aK,eN]using hnd,fun q hq=>?_⟩
 ·simp[bC,aK]at hq
  subst hq
  exact hok
 ·have:=hfp b (by simpa[bC,aK,eN]using hb)
  exact⟨.inr this.1,this.2⟩
 simp at hq
 subst hq
 refine⟨⟨rfl,fun k o hk=>by simp[bC]at hk⟩,nP (fun _ _=>rfl) (fun b hb=>⟨hb.1,⟨⟨hb.2.1.1,?_⟩,hb.2.2.elim .inl fun h=>.inr (.inr h)⟩⟩) .refl hro⟩
 simpa[bC,aK,eN]using hb.2.1.2
theorem lX {v:Value}(h:∀(N:Nat→Prop) (w:World) us,cO w N [] args us→(∀b,N b→b<w.heap.size)→Calls Tryz.prog f us.toArray w (fun e w'=>e=.returned v∧Below w.heap.size w w')):aE true Tryz.prog f [] args (aN (.one (tv v))):=by
 intro N w cs us hL
 obtain⟨rfl,hf⟩:=oB hL
 refine(h _ w us hf (fun b hb=>hb.1)).mono ?_
 rintro e W ⟨rfl,hb⟩
 refine .mk0 (y:=[.w v]) rfl hb (by simp[VT.okL,VT.ok]) (by simp[VT.fpL,VT.fp]) (by simp[VT.fpL,VT.fp]) ⟨.w v,rfl,rfl,?_⟩
 simp[CR,tv,OR]
end
theorem lY {W:World}{N:Nat→Prop}{a b:FV}{us:List Value}(h:cO W N [] [a,b] us):∃u v,us=[u,v]∧bO W N [] a u∧bO W N [] b v:=by
 match us,h with
 | [u,v],h=>
  simp only[cO]at h
  exact⟨u,v,rfl,h.1,h.2.1⟩
 | [],h=>simp only[cO]at h
 | [_],h=>simp only[cO]at h;exact h.2.elim
 | _::_::_::_,h=>simp only[cO]at h;exact absurd h.2.2 (by simp)
theorem Mw {W:World}{N:Nat→Prop}{a:FV}{us:List Value}(h:cO W N [] [a] us):∃u,us=[u]∧bO W N [] a u:=by
 match us,h with
 | [u],h=>
  simp only[cO]at h
  exact⟨u,rfl,h.1⟩
 | [],h=>simp only[cO]at h
 | _::_::_,h=>simp only[cO]at h;exact absurd h.2 (by simp)
section
variable {a b:Fr4}
end
theorem mP (xs:List Nat){k:Nat}(h:k<xs.length):((aR xs).drop (k*1)).take [Tr.v (.int .u32 ((nth xs k:Nat):Int))].length=[Tr.v (.int .u32 ((nth xs k:Nat):Int))]:=by
 rw[Nat.mul_one]
 have:(aR xs)[k]? =some (Tr.v (.int .u32 ((nth xs k:Nat):Int))):=by simp[aR,bY h,h]
 rw[List.length_singleton,List.take_one]
 simp[this]
theorem aQ {x:Cx}{g:Nat→FV}{ob:List (Option Ob)}(h0:x.c0.length=0) (τ:List Nat) (live:List (Nat×FV)) (os:List Ob) (hn:τ.Nodup) (h1:tX τ g live) (h2:gP τ ob τ os):Sub x g ob (cE live) (os.map some):=
 su τ (fun k hk=>by rw[h0]at hk;cases hk) live os hn h1 h2
theorem bL (xs:List Nat):((aR xs).map AV.t).take (xs.length*1)=(aR xs).map .t:=by rw[Nat.mul_one,List.take_of_length_le (by simp[gA])]
theorem aX (xs:List Nat):(aR xs).length=xs.length*1:=by simp[gA]
def rO (a:Fr4):FV:=.agg ((a.tr true).map .t)
theorem Em (a:Fr4):iM (rO a):=by
 simp only[iM,rO,mK,Fr4.tr,List.map_cons,List.map_nil,iP,oV,sU,kN]
 exact⟨trivial,.inl ⟨trivial,dU _⟩,trivial,.inl ⟨trivial,dU _⟩,trivial⟩
theorem KL {a b:Fr4}:a=b↔(a.s=b.s∧a.t=b.t)∧a.x=b.x∧a.y=b.y:=by
 obtain⟨s,x,t,y⟩:=a
 obtain⟨s',x',t',y'⟩:=b
 simp only[Fr4.mk.injEq]
 constructor
 ·rintro⟨h1,h2,h3,h4⟩
  exact⟨⟨h1,h3⟩,h2,h4⟩
 rintro⟨⟨h1,h3⟩,h2,h4⟩
 exact⟨h1,h2,h3,h4⟩
instance:DecidableEq Fr4:=fun a b=>decidable_of_iff _ KL.symm
def hv:List Nat→List Nat
 | []=>[]
 | x::xs=>x%65536::x/65536::hv xs
def lb:List Nat→List Nat
 | []=>[]
 | [a]=>[a]
 | a::b::l=>(a+65536*b)::lb l
theorem Ck:∀(a b:List Nat),hv (a++b)=hv a++hv b
 | [],_=>rfl
 | x::xs,b=>by simp only[List.cons_append,hv,Ck xs b]
theorem oM:∀(a:List Nat),(hv a).length=2*a.length
 | []=>rfl
 | x::xs=>by simp only[hv,List.length_cons,oM xs];omega
theorem Th:∀{a:List Nat},Lim 4294967296 a→Lim 65536 (hv a)
 | [],_=>Lim.nil
 | x::xs,h=>Lim.cons (Nat.mod_lt _ (by omega)) (Lim.cons (by have:=h.head;omega) (Th h.tail))
theorem AA:∀(a:List Nat),vl 65536 (hv a)=vl 4294967296 a
 | []=>rfl
 | x::xs=>by
  simp only[hv,eS,AA xs]
  have:=Nat.mod_add_div x 65536
  omega
theorem AB {a:List Nat}(h:Lim 4294967296 a):trim (hv a)=dg 65536 (vl 4294967296 a):=by rw[←AA,dS (by omega) (Th h)]
theorem Mf {a:List Nat}{k:Nat}(h:k<a.length):hv (a.take (k+1))=hv (a.take k)++[nth a k%65536,nth a k/65536]:=by
 rw[mY h,Ck]
 rfl
theorem AC:∀(a:List Nat),vl 4294967296 (lb a)=vl 65536 a
 | []=>rfl
 | [a]=>by simp[lb,pS]
 | a::b::l=>by
  simp only[lb,eS,AC l]
  omega
theorem Ti:∀{a:List Nat},Lim 65536 a→Lim 4294967296 (lb a)
 | [],_=>Lim.nil
 | [a],h=>Lim.cons (by have:=h.head;omega) Lim.nil
 | a::b::l,h=>Lim.cons (by have:=h.head;have:=h.tail.head;omega) (Ti h.tail.tail)
theorem gQ:∀(a:List Nat),(lb a).length=(a.length+1)/2
 | []=>rfl
 | [a]=>by simp[lb]
 | a::b::l=>by simp only[lb,List.length_cons,gQ l];omega
theorem KM {a:List Nat}(h:lb a=[]):a=[]:=by
 rcases a with _ | ⟨x,_ | ⟨y,l⟩⟩
 ·rfl
 ·simp[lb]at h
 simp[lb]at h
theorem Mg:∀{a:List Nat},trim a=a→trim (lb a)=lb a
 | [],_=>rfl
 | [a],h=>h
 | a::b::l,h=>by
  have hl:trim l=l:=by
   rw[dO]at h
   split at h
   ·cases h
   injection h with _ h
   rw[dO]at h
   split at h
   ·cases h
   injection h
  have ih:=Mg hl
  simp only[lb]
  rw[dO,ih]
  split
  ·rename_i hc
   have h0:=KM hc.1
   subst h0
   rw[dO,dO,Uk]at h
   have hb:b=0:=by omega
   have ha:a=0:=by omega
   subst hb ha
   simp at h
  rfl
theorem vN (v:Nat):lb (dg 65536 v)=dg 4294967296 v:=by
 have h:=Mg (pU (B:=65536) (by omega) v)
 rw[←h,←dS (B:=4294967296) (by omega) (Ti (aM (by omega) v)),AC,bK (by omega)]
theorem vO:∀{l:List Nat}{k:Nat},2*k<l.length→lb (l.take (2*(k+1)))=lb (l.take (2*k))++[nth l (2*k)+65536*nth l (2*k+1)]
 | [],_,h=>by simp at h
 | [a],0,_=>by simp[lb,nth]
 | [a],k+1,h=>by simp at h
 | a::b::l,0,_=>by simp[lb,nth]
 | a::b::l,k+1,h=>by
  have ih:=vO (l:=l) (k:=k) (by simp at h;omega)
  have e1:2*(k+1+1)=2*(k+1)+1+1:=by omega
  have e2:2*(k+1)=2*k+1+1:=by omega
  rw[e1,List.take_succ_cons,List.take_succ_cons]
  simp only[lb]
  rw[ih,e2,List.take_succ_cons,List.take_succ_cons]
  simp only[lb,List.cons_append]
  simp[nth]
theorem dI {v L:Nat}(h:(dg 4294967296 v).length≤L):(dg 65536 v).length≤2*L:=by
 have h1:=mB (B:=4294967296) (by omega) (n:=v)
 refine bN (by omega) (Nat.lt_of_lt_of_le h1 ?_)
 rw[Nat.pow_mul]
 exact Nat.pow_le_pow_right (by omega) h
theorem Hr {X Y os:List Nat}{k cr:Nat}(hl:os.length=k) (h:vl 65536 os+65536^k*cr=vl 65536 (X.take k)+vl 65536 (Y.take k)):
  vl 65536 (os++[(nth X k+nth Y k+cr)%65536])+65536^(k+1)*((nth X k+nth Y k+cr)/65536)=vl 65536 (X.take (k+1))+vl 65536 (Y.take (k+1)):=by
 rw[jA,bH,bH,hl,Nat.pow_succ,Nat.mul_assoc]
 have h2:=Nat.mod_add_div (nth X k+nth Y k+cr) 65536
 have h3:65536^k*(nth X k+nth Y k+cr)=65536^k*((nth X k+nth Y k+cr)%65536)+65536^k*(65536*((nth X k+nth Y k+cr)/65536)):=by rw[←Nat.mul_add,h2]
 rw[Nat.mul_add,Nat.mul_add]at h3
 omega
theorem Ht {X Y os:List Nat}{k br br' d:Nat}(hl:os.length=k) (h:vl 65536 os+vl 65536 (Y.take k)=vl 65536 (X.take k)+65536^k*br) (hd:d+nth Y k+br=nth X k+65536*br'):
  vl 65536 (os++[d])+vl 65536 (Y.take (k+1))=vl 65536 (X.take (k+1))+65536^(k+1)*br':=by
 rw[jA,bH,bH,hl,Nat.pow_succ,Nat.mul_assoc]
 have h3:65536^k*(d+nth Y k+br)=65536^k*(nth X k+65536*br'):=by rw[hd]
 rw[Nat.mul_add,Nat.mul_add,Nat.mul_add]at h3
 omega
theorem KN {a b:Nat}(h:¬((a:Int)-(b:Int)).sign<0):b≤a:=by
 rcases Nat.lt_or_ge a b with h1 | h1
 ·exact absurd (by rw[Int.sign_eq_neg_one_of_neg (by omega)];omega) h
 exact h1
theorem KO {a b:Nat}(h:((a:Int)-(b:Int)).sign<0):a<b:=by
 rcases Nat.lt_or_ge a b with h1 | h1
 ·exact h1
 exact absurd (Int.sign_neg_iff.1 h) (by omega)
theorem Dp {X Y:List Nat}{k:Nat}(hX:Lim 65536 X) (hk:∀j,k+1≤j→nth X j=nth Y j) (h:nth X k<nth Y k):vl 65536 X<vl 65536 Y:=by
 have hS:∀m,vl 65536 (X.take (k+1+m))+vl 65536 (Y.take (k+1))=vl 65536 (Y.take (k+1+m))+vl 65536 (X.take (k+1)):=by
  intro m
  induction m with
  | zero=>exact Nat.add_comm _ _
  | succ m ih=>
   rw[←Nat.add_assoc,bH 65536 X (k+1+m),bH 65536 Y (k+1+m),hk (k+1+m) (by omega)]
   omega
 have h1:=hS (X.length+Y.length)
 rw[bM 65536 (l:=X) (k:=k+1+(X.length+Y.length)) (by omega),bM 65536 (l:=Y) (k:=k+1+(X.length+Y.length)) (by omega)]at h1
 have h2:vl 65536 (X.take (k+1))<vl 65536 (Y.take (k+1)):=by
  rw[bH,bH]
  have h3:=dY (hX.take k)
  have h4:65536^(X.take k).length≤65536^k:=Nat.pow_le_pow_right (by omega) (by rw[List.length_take];omega)
  have h5:65536^k*(nth X k+1)≤65536^k*nth Y k:=Nat.mul_le_mul_left _ h
  rw[Nat.mul_add]at h5
  omega
 omega
theorem Tj {X Y:List Nat}(h:∀j,nth X j=nth Y j):vl 65536 X=vl 65536 Y:=by
 have hS:∀m,vl 65536 (X.take m)=vl 65536 (Y.take m):=by
  intro m
  induction m with
  | zero=>rfl
  | succ m ih=>rw[bH,bH,ih,h]
 have h1:=hS (X.length+Y.length)
 rwa[bM 65536 (l:=X) (k:=X.length+Y.length) (by omega),bM 65536 (l:=Y) (k:=X.length+Y.length) (by omega)]at h1
def dF (xs:List Nat):List Tr:=xs.map fun(n:Nat)=>.v (.int .i64 (n:Int))
def sI (o:Bool) (xs:List Nat):Tr:=.s o 3 1 xs.length (dF xs)
theorem gD (xs:List Nat):(dF xs).length=xs.length:=by simp[dF]
theorem eF (xs:List Nat){k:Nat}(h:k<xs.length):((dF xs).drop (k*1)).take [Tr.v (.int .i64 ((nth xs k:Nat):Int))].length=[Tr.v (.int .i64 ((nth xs k:Nat):Int))]:=by
 rw[Nat.mul_one]
 have:(dF xs)[k]? =some (Tr.v (.int .i64 ((nth xs k:Nat):Int))):=by simp[dF,bY h,h]
 rw[List.length_singleton,List.take_one]
 simp[this]
theorem gE (xs ys:List Nat):(dF xs).map AV.t++(dF ys).map .t=(dF (xs++ys)).map .t:=by simp[dF]
theorem Hu (xs ys:List Nat):(aR xs).map AV.t++(aR ys).map .t=(aR (xs++ys)).map .t:=by simp[aR]
theorem Tk (xs:List Nat) (k:Nat):(dF xs).take (k*1)=dF (xs.take k):=by simp[dF,List.map_take]
theorem Tl {xs:List Nat}{m:Nat}(h:m≤xs.length):FV.one (.t (.s false 3 1 m ((dF xs).take (m*1))))=.one (.t (sI false (xs.take m))):=by
 rw[Tk]
 unfold sI
 rw[List.length_take,Nat.min_eq_left h]
theorem KP (xs:List Nat):eG ((dF xs).map .t)=true:=by
 induction xs with
 | nil=>rfl
 | cons x xs ih=>simpa[dF,eG,mU]using ih
theorem Xe (xs:List Nat):cL ((dF xs).map .t)=true:=by
 induction xs with
 | nil=>rfl
 | cons x xs ih=>simpa[dF,cL,lone]using ih
theorem fK (a b:Nat):Int.tmod (a:Int) (b:Int)=((a%b:Nat):Int):=by
 rw[Int.tmod_eq_emod_of_nonneg (by omega)]
 rfl
theorem eD (a b:Nat):Int.tdiv (a:Int) (b:Int)=((a/b:Nat):Int):=by
 rw[Int.tdiv_eq_ediv_of_nonneg (by omega)]
 rfl
theorem fH {k:IntKind}{a:Nat}(b:Nat) (hb:b≠0) (h:fP k (a:Int)):(b:Int)≠0∧fP k (Int.tdiv (a:Int) (b:Int)):=by
 refine⟨by omega,?_⟩
 rw[eD]
 have:=Nat.div_le_self a b
 generalize a/b=c at this⊢
 cases k <;> simp only[fP]at h⊢ <;> omega
section
variable {x:Cx}{g:Nat→FV}{ob:List (Option Ob)}
theorem tR {i k n:Nat}{zs zs':List Nat}(hi:Nat.blt i x.n=true) (hg:g i=.one (.sl k 0 n)) (ho:bU ob k=some ⟨3,1,(dF zs).map .t⟩) (hn:n=zs.length) (he:zs=zs'):Sub x g ob (aZ g i (.one (.t (sI false zs')))) (ob.set k none):=by
 subst he
 have:=fz hi hg ho (by rw[gD,hn,Nat.mul_one])
 rw[hn]at this
 exact this
theorem UI {i k n:Nat}{zs zs':List Nat}(hi:Nat.blt i x.n=true) (hg:g i=.one (.sl k 0 n)) (ho:bU ob k=some ⟨115,1,(aR zs).map .t⟩) (hn:n=zs.length) (he:zs=zs'):Sub x g ob (aZ g i (.one (.t (sU false zs')))) (ob.set k none):=by
 subst he
 have:=fz hi hg ho (by rw[gA,hn,Nat.mul_one])
 rw[hn]at this
 exact this
theorem lD {τ:List Nat}{a:Option Ob}{xs ys:List Nat}{l:List AV}(h1:a=some ⟨3,1,l⟩) (h:l=(dF ys).map .t) (he:ys=xs):Bw τ a ⟨3,1,(dF xs).map .t⟩:=cV (by rw[h1,h,he])
theorem Tm {τ:List Nat}{a:Option Ob}{xs ys:List Nat}{l:List AV}(h1:a=some ⟨115,1,l⟩) (h:l=(aR ys).map .t) (he:ys=xs):Bw τ a ⟨115,1,(aR xs).map .t⟩:=cV (by rw[h1,h,he])
end
section
variable {l:List Nat}{k N:Nat}{z:Int}{xs:List Nat}{neg:Bool}
theorem zK (hr:cK neg xs=false):cY neg xs=0:=by simp[cY,hr]
theorem lE (h:xs.length=0):cK neg xs= !neg:=by
 rw[List.length_eq_zero_iff]at h
 subst h
 simp[cK]
theorem sG {n:Nat}(hn:xs.length=n) (h:0<n):cK neg xs=decide (((nth xs (n-1):Nat):Int)≠0):=by
 subst hn
 rcases xs with _ | ⟨x,l⟩
 ·simp at h
 simp only[cK,List.isEmpty_cons,Bool.false_and,Bool.not_false,Bool.true_and,Bool.false_or]
 by_cases h0:nth (x::l) ((x::l).length-1)=0
 ·rw[h0];rfl
 rw[bne_iff_ne.2 h0,decide_eq_true (by omega)]
theorem Mh (k:Int):bG (!(aL k)) k.natAbs=-k:=by
 unfold bG aL
 by_cases h:k<0 <;> simp[h] <;> omega
theorem Bc {xs ys:List Nat}(hx:Lim 4294967296 xs) (hy:Lim 4294967296 ys):(dg 4294967296 (vl 4294967296 xs+vl 4294967296 ys)).length≤xs.length+ys.length+1:=by
 refine bN (by omega) ?_
 have h1:=dY hx
 have h2:=dY hy
 have h3:4294967296^xs.length≤4294967296^(xs.length+ys.length):=Nat.pow_le_pow_right (by omega) (by omega)
 have h4:4294967296^ys.length≤4294967296^(xs.length+ys.length):=Nat.pow_le_pow_right (by omega) (by omega)
 rw[Nat.pow_succ]
 omega
theorem Mi {xs ys:List Nat}(hx:Lim 4294967296 xs):(dg 4294967296 (vl 4294967296 xs-vl 4294967296 ys)).length≤xs.length:=bN (by omega) (Nat.lt_of_le_of_lt (Nat.sub_le _ _) (dY hx))
theorem DP {xs ys:List Nat}(hx:Lim 4294967296 xs) (hy:Lim 4294967296 ys):(dg 4294967296 (vl 4294967296 xs*vl 4294967296 ys)).length≤xs.length+ys.length:=by
 refine bN (by omega) ?_
 rw[Nat.pow_add]
 exact Nat.mul_lt_mul'' (dY hx) (dY hy)
theorem bD (k:Int):vl 4294967296 (dg 4294967296 k.natAbs)=k.natAbs:=bK (by omega) _
theorem dC {a b:Nat}(h:a≤b):(dg 4294967296 a).length≤(dg 4294967296 b).length:=cF (by omega) h
theorem eW (k k':Int):(dg 4294967296 (k+k').natAbs).length≤(dg 4294967296 k.natAbs).length+(dg 4294967296 k'.natAbs).length+1:=by
 have h:=Bc (aM (B:=4294967296) (by omega) k.natAbs) (aM (B:=4294967296) (by omega) k'.natAbs)
 rw[bD,bD]at h
 exact Nat.le_trans (dC (by omega)) h
theorem wL (k k':Int):(dg 4294967296 (k-k').natAbs).length≤(dg 4294967296 k.natAbs).length+(dg 4294967296 k'.natAbs).length+1:=by
 have h:=eW k (-k')
 rw[Int.natAbs_neg]at h
 exact h
theorem cI (k k':Int):(dg 4294967296 (k*k').natAbs).length≤(dg 4294967296 k.natAbs).length+(dg 4294967296 k'.natAbs).length:=by
 rw[Int.natAbs_mul]
 have h:=DP (aM (B:=4294967296) (by omega) k.natAbs) (aM (B:=4294967296) (by omega) k'.natAbs)
 rwa[bD,bD]at h
theorem jY (k:Int):(dg 4294967296 (-(k)).natAbs).length=(dg 4294967296 k.natAbs).length:=by rw[Int.natAbs_neg]
theorem Xf {n:Int}(h1:-9223372036854775808≤n) (h2:n≤9223372036854775807):-4294967295≤Int.tmod n 4294967296∧Int.tmod n 4294967296≤4294967295∧-2147483648≤Int.tdiv n 4294967296∧Int.tdiv n 4294967296≤2147483648∧(Int.tmod n 4294967296).natAbs+4294967296*(Int.tdiv n 4294967296).natAbs=n.natAbs∧True:=by
 obtain⟨m,hm⟩:∃m:Nat,n.natAbs=m:=⟨_,rfl⟩
 rw[hm]
 rcases(show n=m∨n=-(m:Int) by omega)with h | h
 ·subst h
  have e1:Int.tmod (m:Int) 4294967296=((m%4294967296:Nat):Int):=by rw[Int.tmod_eq_emod_of_nonneg (by omega)];omega
  have e2:Int.tdiv (m:Int) 4294967296=((m/4294967296:Nat):Int):=by rw[Int.tdiv_eq_ediv_of_nonneg (by omega)];omega
  rw[e1,e2]
  exact⟨by omega,by omega,by omega,by omega,by rw[Int.natAbs_natCast,Int.natAbs_natCast];omega,trivial⟩
 subst h
 have e1:Int.tmod (-(m:Int)) 4294967296=-((m%4294967296:Nat):Int):=by rw[Int.neg_tmod,Int.tmod_eq_emod_of_nonneg (by omega)];omega
 have e2:Int.tdiv (-(m:Int)) 4294967296=-((m/4294967296:Nat):Int):=by rw[Int.neg_tdiv,Int.tdiv_eq_ediv_of_nonneg (by omega)];omega
 rw[e1,e2]
 exact⟨by omega,by omega,by omega,by omega,by rw[Int.natAbs_neg,Int.natAbs_neg,Int.natAbs_natCast,Int.natAbs_natCast];omega,trivial⟩
theorem KQ {n:Int}{a b:Nat}(h:a+4294967296*b=n.natAbs):bG (decide (n<0)) (vl 4294967296 [a,b])=n:=by
 have e:vl 4294967296 [a,b]=n.natAbs:=by simp[vl];omega
 rw[e]
 exact Ho n
theorem Cl {k k':Int}{s:Bool}(h:s=aL k) (h':aL k=aL k'):bG s (k.natAbs+k'.natAbs)=k+k':=by
 subst h
 unfold aL at*
 unfold bG
 by_cases h1:k<0 <;> by_cases h2:k'<0 <;> simp[h1,h2]at h'⊢ <;> omega
theorem Mj {k k':Int}{s:Bool}(h:s=aL k) (h':aL k≠aL k') (hl:¬k.natAbs<k'.natAbs):bG s (k.natAbs-k'.natAbs)=k+k':=by
 subst h
 unfold aL at*
 unfold bG
 by_cases h1:k<0 <;> by_cases h2:k'<0 <;> simp[h1,h2]at h'⊢ <;> omega
theorem Mk {k k':Int}{s:Bool}(h:s=aL k') (h':aL k≠aL k') (hl:k.natAbs<k'.natAbs):bG s (k'.natAbs-k.natAbs)=k+k':=by
 subst h
 unfold aL at*
 unfold bG
 by_cases h1:k<0 <;> by_cases h2:k'<0 <;> simp[h1,h2]at h'⊢ <;> omega
theorem Pm {X os:List Nat}{k q:Nat}{a:Nat}(hk:0<k) (hkx:k≤X.length) (hos:os.length=X.length){v r:Nat}(h:vl 65536 (X.drop k)=v*vl 65536 (os.drop k)+r) (ha:a=nth X (k-1)) (hq:q=(a+65536*r)/v):
  vl 65536 (X.drop (k-1))=v*vl 65536 ((os.set (k-1) q).drop (k-1))+(a+65536*r-q*v):=by
 obtain⟨j,rfl⟩:∃j,k=j+1:=⟨k-1,by omega⟩
 simp only[Nat.add_sub_cancel]at*
 have e1:X.drop j=nth X j::X.drop (j+1):=by rw[List.drop_eq_getElem_cons (by omega),bY (by omega)]
 have e2:(os.set j q).drop j=q::os.drop (j+1):=by
  rw[List.drop_eq_getElem_cons (by rw[List.length_set];omega),List.getElem_set_self,List.drop_set_of_lt (by omega)]
 have h2:q*v≤a+65536*r:=by rw[hq];exact Nat.div_mul_le_self _ _
 rw[e1,e2,eS,eS,h,Nat.mul_add,Nat.mul_add,Nat.mul_comm v q,Nat.mul_left_comm v 65536,←ha]
 omega
theorem uM {xs ys:List Nat}(hx:Lim 65536 xs) (hy:Lim 65536 ys):(dg 65536 (vl 65536 xs*vl 65536 ys)).length≤xs.length+ys.length:=by
 refine bN (by omega) ?_
 rw[Nat.pow_add]
 exact Nat.mul_lt_mul'' (dY hx) (dY hy)
theorem Xg {u v n m:Nat}(hn:(dg 65536 u).length=n) (hm:(dg 65536 v).length=m) (h:n≠m):decide ((n:Int)<(m:Int))=decide (u<v):=by
 have e1:=bK (B:=65536) (by omega) u
 have e2:=bK (B:=65536) (by omega) v
 rcases Nat.lt_or_gt_of_ne h with h1 | h1
 ·have h2:=gM (B:=65536) (a:=dg 65536 u) (b:=dg 65536 v) (by omega) (aM (by omega) u) (pU (by omega) v) (by omega)
  rw[decide_eq_true (by omega),decide_eq_true (by omega)]
 have h2:=gM (B:=65536) (a:=dg 65536 v) (b:=dg 65536 u) (by omega) (aM (by omega) v) (pU (by omega) u) (by omega)
 rw[decide_eq_false (by omega),decide_eq_false (by omega)]
theorem DQ {u v k:Nat}(hag:∀j,k+1≤j→nth (dg 65536 u) j=nth (dg 65536 v) j) (h:nth (dg 65536 u) k≠nth (dg 65536 v) k):decide (((nth (dg 65536 u) k:Nat):Int)<((nth (dg 65536 v) k:Nat):Int))=decide (u<v):=by
 have e1:=bK (B:=65536) (by omega) u
 have e2:=bK (B:=65536) (by omega) v
 rcases Nat.lt_or_gt_of_ne h with h1 | h1
 ·have h2:=Dp (aM (by omega) u) hag h1
  rw[decide_eq_true (by omega),decide_eq_true (by omega)]
 have h2:=Dp (aM (by omega) v) (fun j hj=>(hag j hj).symm) h1
 rw[decide_eq_false (by omega),decide_eq_false (by omega)]
theorem pF {X Y os:List Nat}{n k br br' d:Nat}(hl:os.length=k) (h:vl 65536 os+n*vl 65536 (Y.take k)=vl 65536 (X.take k)+65536^k*br) (hd:d+n*nth Y k+br=nth X k+65536*br'):
  vl 65536 (os++[d])+n*vl 65536 (Y.take (k+1))=vl 65536 (X.take (k+1))+65536^(k+1)*br':=by
 rw[jA,bH,bH,hl,Nat.pow_succ,Nat.mul_assoc,Nat.mul_add,Nat.mul_left_comm n]
 have h3:65536^k*(d+n*nth Y k+br)=65536^k*(nth X k+65536*br'):=by rw[hd]
 rw[Nat.mul_add,Nat.mul_add,Nat.mul_add]at h3
 omega
theorem Xh {u v n k br ln:Nat}{os:List Nat}(hx:(dg 65536 u).length=ln) (hk:os.length=ln) (hol:Lim 65536 os) (h:vl 65536 os+n*vl 65536 ((dg 65536 v).take k)=vl 65536 ((dg 65536 u).take k)+65536^k*br) (hnv:n*v≤u) (hkk:k=ln:=by omega):vl 65536 os=u-n*v:=by
 have h1:=dY hol
 rw[bM 65536 (l:=dg 65536 u) (by omega),bK (by omega)]at h
 have h2:n*vl 65536 ((dg 65536 v).take k)=n*v:=by
  rcases Nat.eq_zero_or_pos n with h0 | h0
  ·rw[h0,Nat.zero_mul,Nat.zero_mul]
  have h3:v≤u:=Nat.le_trans (Nat.le_mul_of_pos_left v h0) hnv
  have h4:=cF (B:=65536) (by omega) h3
  rw[bM 65536 (l:=dg 65536 v) (by omega),bK (by omega)]
 rw[h2]at h
 rcases Nat.eq_zero_or_pos br with h0 | h0
 ·rw[h0,Nat.mul_zero]at h
  omega
 have h5:65536^k*1≤65536^k*br:=Nat.mul_le_mul_left _ h0
 rw[hk,←hkk]at h1
 omega
theorem Tn {u v lo hi:Nat}(h1:lo*v≤u) (h2:u<hi*v) (h:hi=lo+1):u/v=lo:=by
 subst h
 have hv:0<v:=by
  rcases Nat.eq_zero_or_pos v with h0 | h0
  ·subst h0;simp at h2
  exact h0
 exact(Nat.div_eq_iff hv).2 (by rw[Nat.add_mul]at h2;omega)
theorem uN {a r:Nat}(ha:a<65536):trim ([a]++dg 65536 r)=dg 65536 (a+65536*r):=
 xI (by omega) (Lim.cons ha (aM (by omega) r)) (by show a+65536*vl 65536 (dg 65536 r)=_;rw[bK (by omega)])
theorem Xi {a r v:Nat}(ha:a<65536) (hr:r<v):(dg 65536 (a+65536*r)).length≤(dg 65536 v).length+1:=by
 rw[←uN ha]
 refine Nat.le_trans (bZ _) ?_
 have:=cF (B:=65536) (by omega) (Nat.le_of_lt hr)
 simp only[List.length_append,List.length_cons,List.length_nil]
 omega
theorem Hv {l:List Nat}{j v:Nat}(h:j<l.length):nth (l.set j v) j=v:=by simp[nth,h]
theorem To {u v r q:Nat}(h:u=v*q+r) (hr:r<v):q=u/v∧r=u%v:=by
 subst h
 rw[Nat.mul_add_div (by omega),Nat.div_eq_of_lt hr,Nat.mul_add_mod,Nat.mod_eq_of_lt hr]
 exact⟨rfl,rfl⟩
theorem DR {x y:Int}(hx:x.sign≠0) (h:x.sign≠y.sign) (hy:y≠0):(x<0∧0<y)∨(0<x∧y<0):=by
 rcases Int.lt_trichotomy x 0 with h1 | h1 | h1
 ·rcases Int.lt_trichotomy y 0 with h2 | h2 | h2
  ·rw[Int.sign_eq_neg_one_of_neg h1,Int.sign_eq_neg_one_of_neg h2]at h;exact absurd rfl h
  ·exact absurd h2 hy
  exact .inl ⟨h1,h2⟩
 ·rw[h1]at hx;exact absurd rfl hx
 rcases Int.lt_trichotomy y 0 with h2 | h2 | h2
 ·exact .inr ⟨h1,h2⟩
 ·exact absurd h2 hy
 rw[Int.sign_eq_one_of_pos h1,Int.sign_eq_one_of_pos h2]at h;exact absurd rfl h
theorem DS {x y:Int}(h:x.sign=0∨x.sign=y.sign) (hy:y≠0):x=0∨(x<0∧y<0)∨(0<x∧0<y):=by
 rcases Int.lt_trichotomy x 0 with h1 | h1 | h1
 ·rw[Int.sign_eq_neg_one_of_neg h1]at h
  rcases Int.lt_trichotomy y 0 with h2 | h2 | h2
  ·exact .inr (.inl ⟨h1,h2⟩)
  ·exact absurd h2 hy
  rw[Int.sign_eq_one_of_pos h2]at h;omega
 ·exact .inl h1
 rw[Int.sign_eq_one_of_pos h1]at h
 rcases Int.lt_trichotomy y 0 with h2 | h2 | h2
 ·rw[Int.sign_eq_neg_one_of_neg h2]at h;omega
 ·exact absurd h2 hy
 exact .inr (.inr ⟨h1,h2⟩)
theorem AD {a b:Int}(h0:b≠0):bG (aL a) (a.natAbs%b.natAbs)+b*bG (aL a != aL b) (a.natAbs/b.natAbs)=a∧(bG (aL a) (a.natAbs%b.natAbs)).natAbs<b.natAbs:=by
 have e:=Nat.div_add_mod a.natAbs b.natAbs
 have l:=Nat.mod_lt a.natAbs (show 0<b.natAbs by omega)
 refine⟨?_,by rw[hG];exact l⟩
 generalize a.natAbs/b.natAbs=q at*
 generalize a.natAbs%b.natAbs=r at*
 have e2:(b.natAbs:Int)*q+r=a.natAbs:=by exact_mod_cast e
 by_cases hb:b<0 <;> by_cases ha:a<0
 ·rw[show(b.natAbs:Int)=-b by omega,show(a.natAbs:Int)=-a by omega,Int.neg_mul]at e2
  simp[bG,aL,hb,ha];omega
 ·rw[show(b.natAbs:Int)=-b by omega,show(a.natAbs:Int)=a by omega,Int.neg_mul]at e2
  simp[bG,aL,hb,ha,Int.mul_neg];omega
 ·rw[show(b.natAbs:Int)=b by omega,show(a.natAbs:Int)=-a by omega]at e2
  simp[bG,aL,hb,ha,Int.mul_neg];omega
 rw[show(b.natAbs:Int)=b by omega,show(a.natAbs:Int)=a by omega]at e2
 simp[bG,aL,hb,ha];omega
theorem DT {a b r q:Int}(h0:b≠0) (hr:r=bG (aL a) (a.natAbs%b.natAbs)) (hq:q=bG (aL a != aL b) (a.natAbs/b.natAbs)) (h1:r.sign≠0) (h2:r.sign≠b.sign):q-1=a.fdiv b∧r+b=a.fmod b:=by
 obtain⟨h3,h4⟩:=AD (a:=a) h0
 rw[←hr]at h3 h4
 rw[←hq]at h3
 have h5:=DR h1 h2 h0
 have h6:=Ci (a:=a) (b:=b) (q:=q-1) (r:=r+b) h0 (by rw[Int.mul_sub,Int.mul_one];omega) (by omega) (by omega)
 exact⟨h6.1.symm,h6.2.symm⟩
theorem Ml {a b r q:Int}(h0:b≠0) (hr:r=bG (aL a) (a.natAbs%b.natAbs)) (hq:q=bG (aL a != aL b) (a.natAbs/b.natAbs)) (h:r.sign=0∨r.sign=b.sign):q=a.fdiv b∧r=a.fmod b:=by
 obtain⟨h3,h4⟩:=AD (a:=a) h0
 rw[←hr]at h3 h4
 rw[←hq]at h3
 have h5:=DS h h0
 have h6:=Ci (a:=a) (b:=b) (q:=q) (r:=r) h0 h3 (by omega) (by omega)
 exact⟨h6.1.symm,h6.2.symm⟩
theorem Jb {k:Int}(h:(dg 4294967296 k.natAbs).length=0):k.natAbs=0:=(dM (by omega)).1 (List.length_eq_zero_iff.1 h)
theorem Tp {k:Int}(h:(dg 4294967296 k.natAbs).length≠0):k≠0:=by
 intro h0
 subst h0
 exact h (by rw[show Int.natAbs 0=0 from rfl,fJ];rfl)
def iZ (l:List Nat) (k N:Nat):List Nat:=lb (l.take k)++List.replicate (N-(k+1)/2) 0
theorem Xj:iZ l 0 N=List.replicate N 0:=by simp[iZ,lb]
theorem DU (hN:N=(l.length+1)/2) (h:l.length≤k):iZ l k N=lb l:=by
 unfold iZ
 rw[List.take_of_length_le h,show N-(k+1)/2=0 by omega]
 simp
theorem DV (hN:N=(l.length+1)/2) (hk:k≤l.length):(iZ l k N).length=N:=by
 unfold iZ
 rw[List.length_append,List.length_replicate,gQ,List.length_take,Nat.min_eq_left hk]
 omega
theorem vP:∀{l:List Nat}{j:Nat},2*j<l.length→lb (l.take (2*j+1))=lb (l.take (2*j))++[nth l (2*j)]
 | [],_,h=>by simp at h
 | [a],0,_=>by simp[lb,nth]
 | [a],j+1,h=>by simp at h
 | a::b::l,0,_=>by simp[lb,nth]
 | a::b::l,j+1,h=>by
  have ih:=vP (l:=l) (j:=j) (by simp at h;omega)
  have e2:2*(j+1)=2*j+1+1:=by omega
  rw[e2,List.take_succ_cons,List.take_succ_cons,List.take_succ_cons,List.take_succ_cons]
  simp only[lb,List.cons_append]
  rw[ih]
  simp[nth]
theorem Mm {α:Type}(A R:List α) (x y:α){j:Nat}(h:A.length=j):(A++x::R).set j y=A++y::R:=by
 subst h
 rw[List.set_append_right _ _ (Nat.le_refl _),Nat.sub_self]
 rfl
theorem DW (A R:List Nat) (x:Nat){j:Nat}(h:A.length=j):nth (A++x::R) j=x:=by
 subst h
 simp[nth]
theorem Xk (hN:N=(l.length+1)/2) (hk:k<l.length) (he:k%2=0):(iZ l k N).set (k/2) (nth l k)=iZ l (k+1) N:=by
 obtain⟨j,rfl⟩:∃j,k=2*j:=⟨k/2,by omega⟩
 have hA:(lb (l.take (2*j))).length=j:=by rw[gQ,List.length_take,Nat.min_eq_left (by omega)];omega
 unfold iZ
 rw[show 2*j/2=j by omega,show N-(2*j+1)/2=(N-(2*j+1+1)/2)+1 by omega,List.replicate_succ,Mm _ _ _ _ hA,vP hk,List.append_assoc]
 rfl
theorem wB (hN:N=(l.length+1)/2) (hk:k<l.length) (ho:k%2=1):nth (iZ l k N) (k/2)=nth l (k-1):=by
 obtain⟨j,rfl⟩:∃j,k=2*j+1:=⟨k/2,by omega⟩
 have hA:(lb (l.take (2*j))).length=j:=by rw[gQ,List.length_take,Nat.min_eq_left (by omega)];omega
 unfold iZ
 rw[show(2*j+1)/2=j by omega,vP (by omega),List.append_assoc]
 exact DW _ _ _ hA
theorem DX (hN:N=(l.length+1)/2) (hk:k<l.length) (ho:k%2=1):(iZ l k N).set (k/2) (nth (iZ l k N) (k/2)+65536*nth l k)=iZ l (k+1) N:=by
 rw[wB hN hk ho]
 obtain⟨j,rfl⟩:∃j,k=2*j+1:=⟨k/2,by omega⟩
 have hA:(lb (l.take (2*j))).length=j:=by rw[gQ,List.length_take,Nat.min_eq_left (by omega)];omega
 unfold iZ
 rw[show(2*j+1)/2=j by omega,vP (by omega),List.append_assoc,show 2*j+1+1=2*(j+1) by omega,vO (by omega),List.append_assoc,show 2*j+1-1=2*j by omega]
 rw[show N-(2*(j+1))/2=N-(2*(j+1)+1)/2 by omega]
 exact Mm _ _ _ _ hA
theorem KR {l:List Nat}{j v:Nat}:j<l.length→vl 65536 (l.set j v)+65536^j*nth l j=vl 65536 l+65536^j*v:=by
 induction l generalizing j with
 | nil=>intro h;simp at h
 | cons x l ih=>
  intro h
  rcases j with _ | j
  ·simp[nth,eS];omega
  have:=ih (j:=j) (by simpa using h)
  simp only[List.set_cons_succ,eS]
  rw[Nat.pow_succ,show nth (x::l) (j+1)=nth l j by simp[nth],Nat.mul_comm (65536^j) 65536,Nat.mul_assoc,Nat.mul_assoc]
  omega
theorem nI {os a b:List Nat}{i k cr x:Nat}(hj:i+k<os.length) (h:vl 65536 os+65536^(i+k)*cr=vl 65536 (a.take i)*vl 65536 b+65536^i*(nth a i*vl 65536 (b.take k))) (hx:x=nth os (i+k)+cr+nth a i*nth b k):
  vl 65536 (os.set (i+k) (x%65536))+65536^(i+(k+1))*(x/65536)=vl 65536 (a.take i)*vl 65536 b+65536^i*(nth a i*vl 65536 (b.take (k+1))):=by
 have h1:=KR (v:=x%65536) hj
 have h2:=Nat.mod_add_div x 65536
 have h3:65536^(i+k)*x=65536^(i+k)*(x%65536)+65536^(i+k)*(65536*(x/65536)):=by rw[←Nat.mul_add,h2]
 have h4:65536^(i+k)*x=65536^(i+k)*nth os (i+k)+65536^(i+k)*cr+65536^(i+k)*(nth a i*nth b k):=by rw[hx,Nat.mul_add,Nat.mul_add]
 rw[bH,Nat.mul_add,Nat.mul_add,show i+(k+1)=i+k+1 by omega,Nat.pow_succ,Nat.mul_assoc]
 have h5:65536^i*(nth a i*(65536^k*nth b k))=65536^(i+k)*(nth a i*nth b k):=by
  rw[Nat.pow_add,Nat.mul_left_comm (nth a i),Nat.mul_assoc]
 omega
theorem zL {a b:List Nat}{i k:Nat}(hk:b.length≤k):vl 65536 (a.take i)*vl 65536 b+65536^i*(nth a i*vl 65536 (b.take k))=vl 65536 (a.take (i+1))*vl 65536 b:=by
 rw[bM 65536 hk,bH,Nat.add_mul,Nat.mul_assoc]
theorem Hw {os a b:List Nat}{i k cr:Nat}(ha:Lim 65536 a) (hb:Lim 65536 b) (hi:i<a.length) (hk:k≤b.length+1) (h:vl 65536 os+65536^(i+k)*cr=vl 65536 (a.take i)*vl 65536 b+65536^i*(nth a i*vl 65536 (b.take k))) (hc:0<cr):k≤b.length:=by
 rcases Nat.lt_or_ge b.length k with h1 | h1
 ·exfalso
  rw[zL (by omega)]at h
  have h2:=dY (ha.take (i+1))
  have h3:=dY hb
  have h4:vl 65536 (a.take (i+1))*vl 65536 b<65536^(a.take (i+1)).length*65536^b.length:=Nat.mul_lt_mul'' h2 h3
  rw[←Nat.pow_add,List.length_take,Nat.min_eq_left (by omega),show i+1+b.length=i+k by omega]at h4
  have h5:65536^(i+k)*1≤65536^(i+k)*cr:=Nat.mul_le_mul_left _ hc
  omega
 exact h1
end
theorem DY {k k':Int}(h:aL k=true) (h':aL k'=false):(-1:Int)=(k-k').sign:=by
 unfold aL at h h'
 simp at h h'
 rw[Int.sign_eq_neg_one_of_neg (by omega)]
theorem DZ {k k':Int}(h:aL k=false) (h':aL k'=true):(1:Int)=(k-k').sign:=by
 unfold aL at h h'
 simp at h h'
 rw[Int.sign_eq_one_of_pos (by omega)]
theorem EA {k k':Int}(h:aL k=true) (h':aL k'=true):(((k'.natAbs:Nat):Int)-((k.natAbs:Nat):Int)).sign=(k-k').sign:=by
 unfold aL at h h'
 simp at h h'
 rw[show((k'.natAbs:Nat):Int)-((k.natAbs:Nat):Int)=k-k' by omega]
theorem EB {k k':Int}(h:aL k=false) (h':aL k'=false):(((k.natAbs:Nat):Int)-((k'.natAbs:Nat):Int)).sign=(k-k').sign:=by
 unfold aL at h h'
 simp at h h'
 rw[show((k.natAbs:Nat):Int)-((k'.natAbs:Nat):Int)=k-k' by omega]
theorem lF (v:Nat):(dg 4294967296 v).length≤(dg 65536 v).length:=by
 rw[←vN,gQ]
 omega
theorem Hz (xs:List Nat){k:Nat}(h:k<xs.length):((dF xs).map AV.t)[0+k*1]? =some (tv (.int .i64 ((nth xs k:Nat):Int))):=by simp[dF,bY h,h,tv]
theorem KS (xs:List Nat){k:Nat}(h:k<xs.length):((aR xs).map AV.t)[0+k*1]? =some (tv (.int .u32 ((nth xs k:Nat):Int))):=by simp[aR,bY h,h,tv]
theorem nN (xs:List Nat){k v:Nat}(h:k<xs.length):cQ ((dF xs).map AV.t) (0+k*1) [tv (.int .i64 (v:Int))]=(dF (xs.set k v)).map .t:=by
 rw[Nat.zero_add,Nat.mul_one,List.set_eq_take_append_cons_drop,if_pos h]
 simp[cQ,dF,tv,List.map_take,List.map_drop]
theorem Mn (xs:List Nat){k v:Nat}(h:k<xs.length):cQ ((aR xs).map AV.t) (0+k*1) [tv (.int .u32 (v:Int))]=(aR (xs.set k v)).map .t:=by
 rw[Nat.zero_add,Nat.mul_one,List.set_eq_take_append_cons_drop,if_pos h]
 simp[cQ,aR,tv,List.map_take,List.map_drop]
theorem qJ (xs:List Nat){k:Nat}{a:AV}(h:k<xs.length):0+k*1+[a].length≤((dF xs).map AV.t).length:=by simp[dF];omega
theorem Tq (xs:List Nat){k:Nat}{a:AV}(h:k<xs.length):0+k*1+[a].length≤((aR xs).map AV.t).length:=by simp[aR];omega
theorem wR (m:Nat):(List.replicate m (Value.int .i64 0)).map tv=(dF (List.replicate m 0)).map .t:=by simp[dF,tv]
theorem Xl (m:Nat):(List.replicate m (Value.int .u32 0)).map tv=(aR (List.replicate m 0)).map .t:=by simp[aR,tv]
structure Zi where
 s:Bool
 x:List Nat
def Zi.of (k:Int):Zi:=⟨aL k,dg 4294967296 k.natAbs⟩
def gF (a:Zi):FV:=.agg (([.v (.bool a.s),sU false a.x]:List Tr).map .t)
def kF (k:Int):FV:=.agg (([.v (.bool (aL k)),sU false (dg 4294967296 k.natAbs)]:List Tr).map .t)
def kO (k:Int):FV:=.agg (([.v (.bool (aL k)),sU true (dg 4294967296 k.natAbs)]:List Tr).map .t)
def Zn (a:Zi) (k:Int):Prop:=Lim 4294967296 a.x∧a.x.length≤137438953472∧cY a.s a.x=k
theorem Zn.of {k:Int}(h:(dg 4294967296 k.natAbs).length≤137438953472):Zn (.of k) k:=⟨aM (by omega) _,h,qX k⟩
theorem UJ:Zn ⟨false,[]⟩ 0:=⟨Lim.nil,by simp,rfl⟩
theorem Zn.len {a:Zi}{k:Int}(h:Zn a k):(dg 4294967296 k.natAbs).length≤137438953472:=by
 obtain⟨h1,h2,rfl⟩:=h
 exact Nat.le_trans (vM h1) h2
theorem Zn.right {a:Zi}{k:Int}(h:Zn a k) (hr:cK a.s a.x=true):aL k=a.s∧dg 4294967296 k.natAbs=a.x:=by
 obtain⟨h1,h2,rfl⟩:=h
 exact⟨vL h1 hr,nT h1 hr⟩
theorem Zn.wrong {a:Zi}{k:Int}(h:Zn a k) (hr:cK a.s a.x=false):k=0:=by
 obtain⟨h1,h2,rfl⟩:=h
 exact zK hr
theorem Xm {a:Zi}{k:Int}(h:Zn a k) (hr:cK a.s a.x=true):gF a=kF k:=by
 obtain⟨h1,h2⟩:=h.right hr
 unfold gF kF
 rw[h1,h2]
theorem vQ {b:Bool}{m:Nat}{k:Int}(h:b=aL k) (hm:m=k.natAbs):FV.agg [tv (.bool b),.t (sU true (dg 4294967296 m))]=kO k:=by subst h hm;rfl
theorem Bd:FV.agg [tv (.bool false),.t (sU false [])]=kF 0:=by
 unfold kF
 rw[show Int.natAbs 0=0 from rfl,fJ]
 rfl
theorem dV (k:Int):iM (kO k):=by
 simp only[iM,kO,mK,List.map_cons,List.map_nil,iP,oV,sU,kN]
 exact⟨trivial,.inl ⟨trivial,dU _⟩,trivial⟩
theorem Mo (b:Bool) (m:Nat):iM (.agg (([.v (.bool b),sU true (dg 4294967296 m)]:List Tr).map .t)):=by
 simp only[iM,mK,List.map_cons,List.map_nil,iP,oV,sU,kN]
 exact⟨trivial,.inl ⟨trivial,dU _⟩,trivial⟩
theorem PA:CallOk Tryz.prog 180:=.mk Tryz.func180 (by decide) rfl
def bT (l:List Nat):Nat:=l.foldl (fun n c=>n*10+(c-48)) 0
theorem KT {l:List Nat}{k:Nat}(h:k<l.length):bT (l.take k)*10+(nth l k-48)=bT (l.take (k+1)):=by
 have e:l[k]? =some (nth l k):=by rw[bY h];simp[h]
 rw[List.take_add_one,e]
 simp[bT]
theorem Dq:∀{l:List Nat}{k:Nat},(∀c∈l,48≤c∧c≤57)→k≤l.length→bT (l.take k)<10^k
 | l,0,_,_=>by simp[bT]
 | l,k+1,h,hk=>by
  have ih:=Dq (k:=k) h (by omega)
  have h2:=h (nth l k) (by rw[bY (by omega)];exact List.getElem_mem _)
  rw[←KT (by omega),Nat.pow_succ]
  omega
theorem Ts {l:List Nat}{k:Nat}(h:∀c∈l,48≤c∧c≤57) (hk:k<l.length):48≤nth l k∧nth l k≤57:=h _ (by rw[bY hk];exact List.getElem_mem hk)
theorem EC {l:List Nat}(h:∀c∈l,48≤c∧c≤57):Lim 256 l:=fun c hc=>by have:=h c hc;omega
theorem PB {k:Nat}(h:k≤17):10^k≤100000000000000000:=Nat.le_trans (Nat.pow_le_pow_right (by omega) h) (by decide)
theorem ED {l:List Nat}(hd:∀c∈l,48≤c∧c≤57) (h0l:0<l.length) (h18:l.length≤18):aE true Tryz.prog 180 [] [.one (tv (.string (aC l)))] (aN (.tup [.one (tv (.int .i64 ((bT l:Nat):Int))),.one (tv .nilIface)])):=by
 refine bF Tryz.func180 rfl Tryz.ntmps180 rfl aA rfl fun N9 w9 c0 h0=>?_
 have hd0:=Ts hd h0l
 refine sq ?_;refine rl ?_;refine o1 ?_;refine o1 ?_;refine nl ?_;refine sq ?_;refine rl ?_;refine o1 ?_;refine o1 ?_
 refine WL.cast (t:=12) (u':=.int .i64 ((l.length:Nat):Int)) rfl (congrArg (fun n:Nat=>Value.int .i64 (n:Int)) (aF _)) ?_
 refine o1 ?_;refine nl ?_;refine sq ?_;refine sq ?_;refine rl ?_;refine o1 ?_;(iterate 6 refine cH ?_);(iterate 6 refine o1 ?_);refine WL.split (t:=25) rfl (fun h1=>?_) (fun h1=>?_)
 ·(iterate 5 refine o1 ?_);refine nl ?_;refine bR rfl (fun h2=>?_) (fun h2=>?_)
  ·refine sq ?_;refine rl ?_;refine o1 ?_;refine o1 ?_;refine nl ?_;refine sq ?_;refine sq ?_;refine rl ?_;refine o1 ?_;refine o1 ?_ (hC:=(by rw[aF];show 0<l.length;omega))
   refine WL.cast (t:=33) (u':=.int .u8 (((nth l 0):Nat):Int)) rfl (congrArg (fun n:Nat=>Value.int .u8 (n:Int)) (eM (i:=0) (by omega) (by omega))) ?_
   refine o1 ?_;refine o1 ?_;refine WL.split (t:=35) rfl (fun h3=>?_) (fun h3=>?_)
   ·omega
   refine o1 ?_;refine o1 ?_ (hC:=(by rw[aF];show 0<l.length;omega))
   refine WL.cast (t:=37) (u':=.int .u8 (((nth l 0):Nat):Int)) rfl (congrArg (fun n:Nat=>Value.int .u8 (n:Int)) (eM (i:=0) (by omega) (by omega))) ?_
   refine o1 ?_;refine o1 ?_;refine nl ?_;refine bR rfl (fun h4=>?_) (fun h4=>?_)
   ·omega
   refine sk ?_;refine sq ?_;refine rl ?_;refine o1 ?_;refine nl ?_;refine sq ?_;refine sq ?_;refine rl ?_;refine o1 ?_;refine UG (EC hd) (by omega) ?_
   refine o1 ?_;refine o1 ?_;refine nl ?_;refine bl ?_
   refine lp (γ:=Nat) (fun k=>cE [(5,.one (tv (.string (aC l)))),(6,.one (tv (.int .i64 ((bT (l.take k):Nat):Int)))),(47,.one (.t (.s false 5 1 l.length (dJ l)))),(48,.one (tv (.int .i64 ((l.length:Nat):Int)))),(49,.one (tv (.int .i64 ((k:Nat):Int))))]) (fun _=>([]:List Ob).map some) (fun k=>k≤l.length) (fun k=>l.length-k) 0 (Nat.zero_le _) (aQ h0 [] _ _ (by decide) ⟨rfl,rfl,rfl,rfl,rfl,trivial⟩ rfl) fun k hk=>?_
   refine sq ?_;refine rl ?_;refine o1 ?_;refine nl ?_;refine sq ?_;refine bR rfl (fun h5=>?_) (fun h5=>?_)
   ·refine sk ?_;refine sq ?_;refine bl ?_;refine sq ?_;have hdk:=Ts hd (k:=k) (by omega)
    have hvk:=Nat.lt_of_lt_of_le (Dq (k:=k) hd hk) (PB (by omega))
    refine rl ?_;refine o1 ?_;refine kR ([.v (.int .u8 ((nth l (k):Nat):Int))]) (OT l (k:=k) (by omega)) ?_
    refine o1 ?_;refine nl ?_;refine sq ?_;refine rl ?_;refine o1 ?_;refine o1 ?_;refine WL.cast (t:=54) (u':=.int .u8 (((nth l k-48):Nat):Int)) rfl (aI (by omega)) ?_
    refine o1 ?_;refine nl ?_;refine sq ?_;refine sq ?_;refine rl ?_;refine o1 ?_;refine o1 ?_;refine nl ?_;refine bR rfl (fun h6=>?_) (fun h6=>?_)
    ·omega
    refine sk ?_;refine rl ?_;refine o1 ?_;refine o1 ?_;refine WL.cast (t:=59) (u':=.int .i64 (((bT (l.take k)*10):Nat):Int)) rfl (aI (by omega)) ?_
    refine o1 ?_;refine o1 ?_;refine WL.cast (t:=61) (u':=.int .i64 (((nth l k-48):Nat):Int)) rfl (aI (by omega)) ?_
    refine o1 ?_;refine WL.cast (t:=62) (u':=.int .i64 (((bT (l.take k)*10+(nth l k-48)):Nat):Int)) rfl (aI (by omega)) ?_
    refine WL.cast (t:=62) (u':=.int .i64 (((bT (l.take k)*10)+(nth l k-48):Nat):Int)) rfl (aI (by omega)) ?_
    refine o1 ?_;refine nl ?_;refine rl ?_;refine o1 ?_;refine WL.cast (t:=63) (u':=.int .i64 ((k+1:Nat):Int)) rfl (aI (by omega)) ?_
    refine o1 ?_;refine nl ?_
    exact⟨k+1,by omega,by omega,aQ h0 [] _ _ (by decide) ⟨rfl,nE (congrArg (fun n:Nat=>(n:Int)) (KT (by omega)).symm),rfl,rfl,rfl,trivial⟩ rfl⟩
   refine ex ?_;refine sq ?_;refine sq ?_;refine rl ?_;refine o1 ?_;refine o1 ?_ (hC:=(by rw[aF];show 0<l.length;omega))
   refine WL.cast (t:=65) (u':=.int .u8 (((nth l 0):Nat):Int)) rfl (congrArg (fun n:Nat=>Value.int .u8 (n:Int)) (eM (i:=0) (by omega) (by omega))) ?_
   refine o1 ?_;refine nl ?_;refine bR rfl (fun h7=>?_) (fun h7=>?_)
   ·omega
   refine sk ?_;refine sq ?_;refine rl ?_;(iterate 3 refine o1 ?_);refine nl ?_;refine rt ?_;have hk9:k=l.length:=by omega
   exact en (.inl rfl) rfl (dB (.cons (aO _) (.cons (aO _) .nil))) (by decide) (fun _=>⟨trivial,trivial,trivial⟩) (by rw[hk9,List.take_of_length_le (Nat.le_refl _)];rfl)
  omega
 omega
theorem xO {l:List Nat}(hd:∀c∈l,48≤c∧c≤57) (h0l:0<l.length) (h18:l.length≤18):aE true Tryz.prog 164 [] [.one (tv (.string (aC l)))] (aN (.tup [.one (tv (.int .i64 ((bT l:Nat):Int))),.one (tv .nilIface)])):=by
 refine bF Tryz.func164 rfl Tryz.ntmps164 rfl aA rfl fun N9 w9 c0 h0=>?_
 refine sq ?_;refine rl ?_;refine o1 ?_;refine o1 ?_;refine nl ?_;refine sq ?_;refine rl ?_;refine o1 ?_
 refine ca (ED hd h0l h18) PA ⟨a1 rfl,rfl⟩ (.tup [.one (tv (.int .i64 ((bT l:Nat):Int))),.one (tv .nilIface)]) ?_;(iterate 5 refine o1 ?_);refine nl ?_;refine sq ?_;refine sq ?_
 refine rl ?_;refine o1 ?_;refine UH ?_ (by kernel_rfl)
 refine nl ?_;refine fW rfl ?_;refine sk ?_;refine sq ?_;refine rl ?_;(iterate 3 refine o1 ?_);refine nl ?_;refine rt ?_
 exact en (.inl rfl) rfl (dB (.cons (aO _) (.cons (aO _) .nil))) (by decide) (fun _=>⟨trivial,trivial,trivial⟩) rfl
end Go.Proofs.YtcaakamelngceaaGreatDoor
namespace Go.Proofs.YtcaakamelngceaaGreatDoor
open Go Go.Shelf
def laysS_ren:Go.Shelf.Ren:=⟨fun | 119=>190 | 120=>176 | 137=>189 | 151=>161 | 152=>177 | 160=>125 | 161=>89 | 162=>58 | 197=>168 | 217=>204 | 224=>191 | 225=>192 | 227=>113 | 228=>159 | 231=>140 | 232=>112 | 233=>141 | 234=>114 | 235=>142 | 236=>115 | 260=>183 | 266=>212 | 271=>160 | n=>n,fun | 0=>0 | 3=>3 | 4=>4 | 5=>5 | 9=>9 | 21=>21 | 46=>119 | 105=>181 | 116=>147 | 117=>148 | 119=>215 | 124=>151 | 138=>217 | 139=>218 | n=>n,fun | 3=>2 | 4=>3 | n=>n⟩
theorem sH:Go.Proofs.Lays.n160 Tryz.prog laysS_ren:={
 mixed:=by kernel_rfl
 f119:=Tryz.func190.trans (congrArg some (by kernel_rfl))
 f120:=Tryz.func176.trans (congrArg some (by kernel_rfl))
 f137:=Tryz.func189.trans (congrArg some (by kernel_rfl))
 f151:=Tryz.func161.trans (congrArg some (by kernel_rfl))
 f152:=Tryz.func177.trans (congrArg some (by kernel_rfl))
 f160:=Tryz.func125.trans (congrArg some (by kernel_rfl))
 f197:=Tryz.func168.trans (congrArg some (by kernel_rfl))
 f217:=Tryz.func204.trans (congrArg some (by kernel_rfl))
 f224:=Tryz.func191.trans (congrArg some (by kernel_rfl))
 f225:=Tryz.func192.trans (congrArg some (by kernel_rfl))
 f227:=Tryz.func113.trans (congrArg some (by kernel_rfl))
 f228:=Tryz.func159.trans (congrArg some (by kernel_rfl))
 f231:=Tryz.func140.trans (congrArg some (by kernel_rfl))
 f232:=Tryz.func112.trans (congrArg some (by kernel_rfl))
 f233:=Tryz.func141.trans (congrArg some (by kernel_rfl))
 f234:=Tryz.func114.trans (congrArg some (by kernel_rfl))
 f235:=Tryz.func142.trans (congrArg some (by kernel_rfl))
 f236:=Tryz.func115.trans (congrArg some (by kernel_rfl))
 f260:=Tryz.func183.trans (congrArg some (by kernel_rfl))
 f266:=Tryz.func212.trans (congrArg some (by kernel_rfl))
 f271:=Tryz.func160.trans (congrArg some (by kernel_rfl))
 t0:=Tryz.underlying0
 a0:=Tryz.isAgg0
 z0:=Tryz.sizeOf0
 v0:=Tryz.zeroValue0
 t3:=Tryz.underlying3
 a3:=Tryz.isAgg3
 z3:=Tryz.sizeOf3
 v3:=Tryz.zeroValue3
 t4:=Tryz.underlying4
 a4:=Tryz.isAgg4
 z4:=Tryz.sizeOf4
 v4:=Tryz.zeroValue4
 t5:=Tryz.underlying5
 a5:=Tryz.isAgg5
 z5:=Tryz.sizeOf5
 v5:=Tryz.zeroValue5
 t9:=Tryz.underlying9
 a9:=Tryz.isAgg9
 z9:=Tryz.sizeOf9
 v9:=Tryz.zeroValue9
 t21:=Tryz.underlying21
 a21:=Tryz.isAgg21
 z21:=Tryz.sizeOf21
 v21:=Tryz.zeroValue21
 t46:=Tryz.underlying119
 a46:=Tryz.isAgg119
 z46:=Tryz.sizeOf119
 v46:=Tryz.zeroValue119
 t105:=Tryz.underlying181
 a105:=Tryz.isAgg181
 z105:=Tryz.sizeOf181
 v105:=Tryz.zeroValue181
 t116:=Tryz.underlying147
 a116:=Tryz.isAgg147
 z116:=Tryz.sizeOf147
 t117:=Tryz.underlying148
 a117:=Tryz.isAgg148
 z117:=Tryz.sizeOf148
 v117:=Tryz.zeroValue148
 t119:=Tryz.underlying215
 a119:=Tryz.isAgg215
 z119:=Tryz.sizeOf215
 t124:=Tryz.underlying151
 a124:=Tryz.isAgg151
 z124:=Tryz.sizeOf151
 v124:=Tryz.zeroValue151
 t138:=Tryz.underlying217
 a138:=Tryz.isAgg217
 z138:=Tryz.sizeOf217
 v138:=Tryz.zeroValue217
 t139:=Tryz.underlying218
 a139:=Tryz.isAgg218
 z139:=Tryz.sizeOf218
 v139:=Tryz.zeroValue218
 g3:=by kernel_rfl
 g4:=by kernel_rfl}
theorem Xn:Go.Proofs.Lays.n161 Tryz.prog laysS_ren:={sH with
 f161:=Tryz.func89.trans (congrArg some (by kernel_rfl))}
theorem Xo:Go.Proofs.Lays.n162 Tryz.prog laysS_ren:={sH with
 f162:=Tryz.func58.trans (congrArg some (by kernel_rfl))}
end Go.Proofs.YtcaakamelngceaaGreatDoor
namespace Go.Proofs.YtcaakamelngceaaGreatDoor
open Go Go.RowKit
section
variable {f:FuncId}{args:List FV}
theorem kG {xs:List Nat}(h:∀(N:Nat→Prop) (w:World) us,cO w N [] args us→(∀b,N b→b<w.heap.size)→Calls Tryz.prog f us.toArray w (kZ xs w)):aE true Tryz.prog f [] args (aN (.one (.t (sU true xs)))):=by
 intro N w cs us hL
 obtain⟨rfl,hf⟩:=oB hL
 refine(h _ w us hf (fun b hb=>hb.1)).mono ?_
 rintro e W ⟨A,n,c,rfl,ho,hb⟩
 obtain⟨y1,a1,a2,a3,a4⟩:=qB (N:=fun b=>true=false∧(b<W.heap.size∧b∉VT.fpL [])∧(N b∨w.heap.size≤b)) ho
 refine .mk0 (y:=[y1]) rfl hb (by simp only[VT.okL];exact⟨a3,trivial⟩) ?_ (fun b hb'=>?_) ?_
 ·simp only[VT.fpL,a4,List.append_nil]
  cases A <;> simp[Value.ownBlock]
 ·simp only[VT.fpL,a4,List.append_nil]at hb'
  exact ho.blk b hb'
 exact⟨y1,rfl,a1.symm,iH (fun _ _=>rfl) (fun b hb=>absurd hb.1 (by simp)) _ _ a2⟩
variable {xs ys:List Nat}
theorem gR {W:World}{N:Nat→Prop}{v:Value}(h:bO W N [] (.one (.t (sU false xs))) v) (hl:Lim 4294967296 xs) (hN:∀b,N b→b<W.heap.size):∃A c,v=.slice A xs.length c∧U32 W W.heap.size A xs.length c xs:=by
 simp only[bO,AR]at h
 obtain⟨A,c,rfl,l⟩:=Bb h hl
 exact⟨A,c,rfl,l.u32 hN⟩
theorem KU (hx:Lim 4294967296 xs) (h:xs.length≤1099511627776):aE true Tryz.prog 86 [] [.one (.t (sU false xs))] (aN (.one (.t (sU true (trim xs))))):=kG fun N w us hf hN=>by
 obtain⟨u,rfl,h1⟩:=Mw hf
 obtain⟨A,c,rfl,u1⟩:=gR h1 hx hN
 exact eK A _ c xs w u1 h
theorem EE (hx:Lim 4294967296 xs) (h:xs.length≤1099511627776):aE true Tryz.prog 122 [] [.one (.t (sU false xs))] (aN (.one (.t (sU true xs)))):=kG fun N w us hf hN=>by
 obtain⟨u,rfl,h1⟩:=Mw hf
 obtain⟨A,c,rfl,u1⟩:=gR h1 hx hN
 exact nR A _ c xs w u1 h
theorem PC (hx:Lim 4294967296 xs) (hy:Lim 4294967296 ys):aE true Tryz.prog 178 [] [.one (.t (sU false xs)),.one (.t (sU false ys))] (aN (.one (tv (.int .i64 (lB (vl 4294967296 xs) (vl 4294967296 ys)))))):=lX fun N w us hf hN=>by
 obtain⟨u,v,rfl,h1,h2⟩:=lY hf
 obtain⟨A,c,rfl,u1⟩:=gR h1 hx hN
 obtain⟨B,d,rfl,u2⟩:=gR h2 hy hN
 exact(oK A B _ _ c d xs ys _ w u1 u2).mono fun e W ⟨he,k,hk⟩=>⟨he,hk▸fC (Below.refl _ _) k⟩
theorem Pn (hx:Lim 4294967296 xs) (hy:Lim 4294967296 ys) (h:xs.length≤1099511627776) (h':ys.length≤1099511627776):aE true Tryz.prog 165 [] [.one (.t (sU false xs)),.one (.t (sU false ys))] (aN (.one (.t (sU true (dg 4294967296 (vl 4294967296 xs+vl 4294967296 ys)))))):=kG fun N w us hf hN=>by
 obtain⟨u,v,rfl,h1,h2⟩:=lY hf
 obtain⟨A,c,rfl,u1⟩:=gR h1 hx hN
 obtain⟨B,d,rfl,u2⟩:=gR h2 hy hN
 exact Wz A B _ _ c d xs ys w u1 u2 h h'
theorem Yg (hx:Lim 4294967296 xs) (hy:Lim 4294967296 ys) (h:xs.length≤549755813888) (h':ys.length≤549755813888):aE true Tryz.prog 119 [] [.one (.t (sU false xs)),.one (.t (sU false ys))] (aN (.one (.t (sU true (dg 4294967296 (vl 4294967296 xs*vl 4294967296 ys)))))):=kG fun N w us hf hN=>by
 obtain⟨u,v,rfl,h1,h2⟩:=lY hf
 obtain⟨A,c,rfl,u1⟩:=gR h1 hx hN
 obtain⟨B,d,rfl,u2⟩:=gR h2 hy hN
 exact DD A B _ _ c d xs ys w u1 u2 h h'
theorem Xp {W:World}{N:Nat→Prop}{t:Nat}{v:Value}(h:bO W N [] (.one (.t (.s false t 1 2 [sU false xs,sU false ys]))) v) (hx:Lim 4294967296 xs) (hy:Lim 4294967296 ys) (hN:∀b,N b→b<W.heap.size):∃A c,v=.slice A 2 c∧URows W W.heap.size A 2 c [xs,ys]:=by
 simp only[bO,AR,FR]at h
 obtain⟨A,c,rfl,h1,h2,_,h4⟩:=h
 rcases h4 with h4 | ⟨ad,rfl,h5,h6⟩
 ·omega
 obtain⟨u0,e0,f0⟩:=lJ h6 (j:=0) rfl
 obtain⟨u1,e1,f1⟩:=lJ h6 (j:=1) rfl
 obtain⟨A0,c0,rfl,l0⟩:=Bb f0 hx
 obtain⟨A1,c1,rfl,l1⟩:=Bb f1 hy
 rw[Nat.zero_add]at e0 e1
 refine⟨_,c,rfl,rfl,h1,h2,fun k hk=>?_⟩
 obtain⟨b,o,sp⟩:=ad
 match k,hk with
 | 0,_=>exact⟨b,o,sp,A0,_,c0,rfl,hN _ h5,e0,l0.u32 hN⟩
 | 1,_=>exact⟨b,o,sp,A1,_,c1,rfl,hN _ h5,e1,l1.u32 hN⟩
theorem PD {t:Nat}(hx:Lim 4294967296 xs) (hy:Lim 4294967296 ys) (h:xs.length≤549755813888) (h':ys.length≤549755813888):aE true Tryz.prog 173 [] [.one (.t (.s false t 1 2 [sU false xs,sU false ys]))] (aN (.one (.t (sU true (dg 4294967296 (oL [xs,ys])))))):=kG fun N w us hf hN=>by
 obtain⟨u,rfl,h1⟩:=Mw hf
 obtain⟨A,c,rfl,u1⟩:=Xp h1 hx hy hN
 exact DK A 2 c [xs,ys] w u1 (by omega) (fun k hk=>by match k,hk with | 0,_=>exact h | 1,_=>exact h')
theorem tH (A:Option Addr) (n c:Nat):((Value.slice A n c).ownBlock.toList).Nodup:=by cases A <;> simp[Value.ownBlock]
theorem Po (hx:Lim 4294967296 xs) (hy:Lim 4294967296 ys) (h:xs.length≤1099511627776) (hle:vl 4294967296 ys≤vl 4294967296 xs):aE true Tryz.prog 175 [] [.one (.t (sU false xs)),.one (.t (sU false ys))] (aN (.tup [.one (.t (sU true (dg 4294967296 (vl 4294967296 xs-vl 4294967296 ys)))),.one (tv (.int .i64 0))])):=by
 intro N w cs us hL
 obtain⟨rfl,hf⟩:=oB hL
 obtain⟨u,v,rfl,h1,h2⟩:=lY hf
 obtain⟨A,c,rfl,u1⟩:=gR h1 hx fun b hb=>hb.1
 obtain⟨B,d,rfl,u2⟩:=gR h2 hy fun b hb=>hb.1
 refine(Xa A B _ _ c d xs ys w u1 u2 h hle).mono ?_
 rintro e W ⟨A,n,c,rfl,ho,hb⟩
 obtain⟨y1,a1,a2,a3,a4⟩:=qB (N:=fun b=>true=false∧(b<W.heap.size∧b∉VT.fpL [])∧(N b∨w.heap.size≤b)) ho
 refine .mk0 (y:=[y1,.w (.int .i64 0)]) rfl hb (by simp only[VT.okL,VT.ok];exact⟨a3,trivial,trivial⟩) ?_ (fun b hb'=>?_) ?_
 ·simp only[VT.fpL,VT.fp,a4,List.append_nil]
  exact tH A n c
 ·simp only[VT.fpL,VT.fp,a4,List.append_nil]at hb'
  exact ho.blk b hb'
 refine⟨[_,_],rfl,?_⟩
 exact⟨_,_,[y1],[.w (.int .i64 0)],rfl,rfl,⟨y1,rfl,a1.symm,iH (fun _ _=>rfl) (fun b hb=>absurd hb.1 (by simp)) _ _ a2⟩,_,_,[.w (.int .i64 0)],[],rfl,rfl,⟨_,rfl,rfl,by simp[CR,tv,OR]⟩,rfl,rfl⟩
theorem Xq (hx:Lim 4294967296 xs) (hy:Lim 4294967296 ys) (h:xs.length≤549755813888) (h':ys.length≤549755813888) (h0:vl 4294967296 ys≠0):aE true Tryz.prog 174 [] [.one (.t (sU false xs)),.one (.t (sU false ys))] (aN (.tup [.one (.t (sU true (dg 4294967296 (vl 4294967296 xs/vl 4294967296 ys)))),.one (.t (sU true (dg 4294967296 (vl 4294967296 xs%vl 4294967296 ys)))),.one (tv (.int .i64 0))])):=by
 intro N w cs us hL
 obtain⟨rfl,hf⟩:=oB hL
 obtain⟨u,v,rfl,h1,h2⟩:=lY hf
 obtain⟨A,c,rfl,u1⟩:=gR h1 hx fun b hb=>hb.1
 obtain⟨B,d,rfl,u2⟩:=gR h2 hy fun b hb=>hb.1
 refine(zH A B _ _ c d xs ys w u1 u2 h h' h0).mono ?_
 rintro e W ⟨A1,n1,c1,A2,n2,c2,rfl,ho,ho2,hap,hb⟩
 obtain⟨y1,a1,a2,a3,a4⟩:=qB (N:=fun b=>true=false∧(b<W.heap.size∧b∉VT.fpL [])∧(N b∨w.heap.size≤b)) ho
 obtain⟨y2,b1,b2,b3,b4⟩:=qB (N:=fun b=>true=false∧(b<W.heap.size∧b∉VT.fpL [])∧(N b∨w.heap.size≤b)) ho2
 refine .mk0 (y:=[y1,y2,.w (.int .i64 0)]) rfl hb (by simp only[VT.okL,VT.ok];exact⟨a3,b3,trivial,trivial⟩) ?_ (fun b hb'=>?_) ?_
 ·simp only[VT.fpL,VT.fp,a4,b4,List.append_nil]
  rw[List.nodup_append]
  refine⟨tH ..,tH ..,fun x hx y hy e=>?_⟩
  subst e
  rcases A1 with _ | a
  ·simp[Value.ownBlock]at hx
  rcases A2 with _ | b
  ·simp[Value.ownBlock]at hy
  simp[Value.ownBlock]at hx hy
  exact hap a b rfl rfl (by rw[←hx,←hy])
 ·simp only[VT.fpL,VT.fp,a4,b4,List.append_nil]at hb'
  rcases List.mem_append.1 hb' with hb' | hb'
  ·exact ho.blk b hb'
  exact ho2.blk b hb'
 refine⟨[_,_,_],rfl,?_⟩
 exact⟨_,_,[y1],[y2,.w (.int .i64 0)],rfl,rfl,⟨y1,rfl,a1.symm,iH (fun _ _=>rfl) (fun b hb=>absurd hb.1 (by simp)) _ _ a2⟩,_,_,[y2],[.w (.int .i64 0)],rfl,rfl,⟨y2,rfl,b1.symm,iH (fun _ _=>rfl) (fun b hb=>absurd hb.1 (by simp)) _ _ b2⟩,_,_,[.w (.int .i64 0)],[],rfl,rfl,⟨_,rfl,rfl,by simp[CR,tv,OR]⟩,rfl,rfl⟩
end
section
variable {xs:List Nat}
theorem Pp {d:Nat}(hx:Lim 4294967296 xs) (h:xs.length≤1099511627776) (hd0:0<d) (hd:d<4294967296):aE true Tryz.prog 87 [] [.one (.t (sU false xs)),.one (tv (.int .u32 (d:Int)))] (aN (.tup [.one (.t (sU true (dg 4294967296 (vl 4294967296 xs/d)))),.one (tv (.int .u32 ((vl 4294967296 xs%d:Nat):Int))),.one (tv (.int .i64 0))])):=by
 intro N w cs us hL
 obtain⟨rfl,hf⟩:=oB hL
 obtain⟨u,v,rfl,h1,h2⟩:=lY hf
 obtain⟨A,c,rfl,u1⟩:=gR h1 hx fun b hb=>hb.1
 obtain rfl:=aT (dZ h2)
 refine(nC A _ c d xs w u1 h hd0 hd).mono ?_
 rintro e W ⟨A,n,c,rfl,ho,hb⟩
 obtain⟨y1,a1,a2,a3,a4⟩:=qB (N:=fun b=>true=false∧(b<W.heap.size∧b∉VT.fpL [])∧(N b∨w.heap.size≤b)) ho
 refine .mk0 (y:=[y1,.w (.int .u32 ((vl 4294967296 xs%d:Nat):Int)),.w (.int .i64 0)]) rfl hb (by simp only[VT.okL,VT.ok];exact⟨a3,trivial,trivial,trivial⟩) ?_ (fun b hb'=>?_) ?_
 ·simp only[VT.fpL,VT.fp,a4,List.append_nil]
  exact tH A n c
 ·simp only[VT.fpL,VT.fp,a4,List.append_nil]at hb'
  exact ho.blk b hb'
 refine⟨[_,_,_],rfl,?_⟩
 exact⟨_,_,[y1],[.w _,.w (.int .i64 0)],rfl,rfl,⟨y1,rfl,a1.symm,iH (fun _ _=>rfl) (fun b hb=>absurd hb.1 (by simp)) _ _ a2⟩,_,_,[.w _],[.w (.int .i64 0)],rfl,rfl,⟨_,rfl,rfl,by simp[CR,tv,OR]⟩,_,_,[.w (.int .i64 0)],[],rfl,rfl,⟨_,rfl,rfl,by simp[CR,tv,OR]⟩,rfl,rfl⟩
theorem EF {v:Nat}(hx:Lim 4294967296 xs) (h:xs.length≤1099511627776) (hv:vl 4294967296 xs=v):aE true Tryz.prog 86 [] [.one (.t (sU false xs))] (aN (.one (.t (sU true (dg 4294967296 v))))):=by
 have e:=dS (B:=4294967296) (by omega) hx
 rw[←hv,e]
 exact KU hx h
theorem KV {u d:Nat}(h:(dg 4294967296 u).length≤1099511627776) (hd0:0<d) (hd:d<4294967296):aE true Tryz.prog 87 [] [.one (.t (sU false (dg 4294967296 u))),.one (tv (.int .u32 (d:Int)))] (aN (.tup [.one (.t (sU true (dg 4294967296 (u/d)))),.one (tv (.int .u32 ((u%d:Nat):Int))),.one (tv (.int .i64 0))])):=by
 have e:=bK (B:=4294967296) (by omega) u
 have h2:=Pp (xs:=dg 4294967296 u) (d:=d) (aM (by omega) _) h hd0 hd
 rw[e]at h2
 exact h2
end
theorem Ek {l:List Nat}(hn:l.length≤9223372036854775807):aE true Tryz.prog 125 [] [.one (tv (.string (aC l))),.one (tv (.string ⟨#[48,49,50,51,52,53,54,55,56,57]⟩))] (aN (.one (tv (.string ⟨(Lib.trimS (aC l).data.toList [48,49,50,51,52,53,54,55,56,57]).toArray⟩)))):=lX fun N w us hf hN=>by
 obtain⟨u,v,rfl,h1,h2⟩:=lY hf
 obtain rfl:=aT (dZ h1)
 obtain rfl:=aT (dZ h2)
 exact Go.Proofs.Any.strings_Trim_laid sH (by kernel_rfl) (aC l) ⟨#[48,49,50,51,52,53,54,55,56,57]⟩ w (by rw[aF];omega) (by decide) (fun j b h=>(by decide:∀b∈([48,49,50,51,52,53,54,55,56,57]:List UInt8),b.toNat<128) b (List.mem_of_getElem? h))
theorem uO {α:Type}{p:α→Bool}:∀{l:List α},l.dropWhile p=[]↔∀x∈l,p x=true
 | []=>by simp
 | x::l=>by
  rw[List.dropWhile_cons]
  by_cases h:p x=true
  ·rw[if_pos h,uO];simp[h]
  rw[if_neg h];simp[h]
theorem Tt {l cs:List UInt8}:Lib.trimS l cs=[]↔∀x∈l,cs.contains x=true:=by
 unfold Lib.trimS Lib.trimLeftS Lib.trimRightS
 rw[uO]
 refine⟨fun h=>?_,fun h x hx=>h x (by simpa using(List.dropWhile_sublist _).subset (List.mem_reverse.1 hx))⟩
 cases hq:l.reverse.dropWhile (cs.contains ·)with
 | nil=>exact fun x hx=>uO.1 hq x (List.mem_reverse.2 hx)
 | cons y ys=>
  have h1:=h y (by rw[hq];simp)
  have h2:=List.head?_dropWhile_not (cs.contains ·) l.reverse
  rw[hq]at h2
  simp at h2
  exact absurd (by simpa using h1) h2
theorem xU {xs:List Nat}{m:Nat}(hx:Lim 4294967296 xs) (h:xs.length≤1099511627776) (hm:m<4294967296):aE true Tryz.prog 166 [] [.one (.t (sU false xs)),.one (tv (.int .u32 (m:Int)))] (aN (.one (.t (sU true (dg 4294967296 (vl 4294967296 xs*m)))))):=kG fun N w us hf hN=>by
 obtain⟨u,v,rfl,h1,h2⟩:=lY hf
 obtain⟨A,c,rfl,u1⟩:=gR h1 hx hN
 obtain rfl:=aT (dZ h2)
 exact sY A _ c m xs w u1 h hm
theorem Tu {xs:List Nat}(hx:xs.length≤4398046511104):aE false Tryz.prog 172 [] [.one (.t (sI false xs))] (aN (.one (.t (sI false (trim xs))))):=by
 refine bF Tryz.func172 rfl Tryz.ntmps172 rfl aA rfl fun N w c0 h0=>?_
 refine sq ?_;refine rl ?_;refine o1 ?_;refine nl ?_;refine sq ?_;refine bl ?_
 refine lp (γ:=List Nat) (fun zs=>cE [(0,.one (.t (sI false zs)))]) (fun _=>([]:List Ob).map some) (fun zs=>trim zs=trim xs∧zs.length≤xs.length) (fun zs=>zs.length) xs ⟨rfl,Nat.le_refl _⟩ (aQ h0 [] _ _ (by decide) ⟨rfl,trivial⟩ rfl) fun zs hz=>?_
 refine sq ?_;refine sq ?_;refine rl ?_;(iterate 4 refine o1 ?_);refine WL.split (t:=6) rfl (fun h1=>?_) (fun h1=>?_)
 ·(iterate 4 refine o1 ?_);refine WL.cast (t:=10) (u':=.int .i64 ((zs.length-1:Nat):Int)) rfl (aI (by omega)) ?_
  refine o1 ?_;refine kR ([.v (.int .i64 ((nth zs (zs.length-1):Nat):Int))]) (eF zs (k:=zs.length-1) (by omega)) ?_
  refine o1 ?_;refine o1 ?_;refine nl ?_;refine bR rfl (fun h2=>?_) (fun h2=>?_)
  ·refine sk ?_;refine bl ?_;refine rl ?_;(iterate 4 refine o1 ?_);refine WL.cast (t:=18) (u':=.int .i64 ((zs.length-1:Nat):Int)) rfl (aI (by omega)) ?_
   refine o1 ?_;refine o1 ?_;refine nl ?_
   exact⟨zs.take (zs.length-1),by rw[List.length_take];omega,⟨(by rw[tC (xs:=zs) (k:=zs.length) (by omega) (Nat.le_refl _) (by omega),List.take_length];exact hz.1),by rw[List.length_take];omega⟩,aQ h0 [] _ _ (by decide) ⟨congrArg some (Tl (by omega)).symm,trivial⟩ rfl⟩
  refine ex ?_;refine sq ?_;refine rl ?_;refine o1 ?_;refine o1 ?_;refine nl ?_;refine rt ?_;refine en (.inl rfl) rfl (aV (.one (.id rfl))) (by decide) (fun h=>by cases h) ?_
  have hx:trim xs=zs:=by
   rw[←hz.1];have h9:=oO (xs:=zs) (k:=zs.length) (by omega) (Nat.le_refl _) (by omega)
   rwa[List.take_length]at h9
  rw[hx];rfl
 (iterate 7 refine cH ?_);refine o1 ?_;refine nl ?_;refine fW rfl ?_;refine ex ?_;refine sq ?_;refine rl ?_;refine o1 ?_;refine o1 ?_;refine nl ?_;refine rt ?_
 refine en (.inl rfl) rfl (aV (.one (.id rfl))) (by decide) (fun h=>by cases h) ?_
 have hx:trim xs=zs:=by
  have h9:zs=[]:=List.eq_nil_of_length_eq_zero (by omega)
  rw[←hz.1,h9];rfl
 rw[hx];rfl
theorem hJ {xs:List Nat}(hx:xs.length≤1099511627776) (hl:Lim 4294967296 xs):aE false Tryz.prog 152 [] [.one (.t (sU false xs))] (aN (.one (.t (sI false (dg 65536 (vl 4294967296 xs)))))):=by
 refine bF Tryz.func152 rfl Tryz.ntmps152 rfl aA rfl fun N w c0 h0=>?_
 refine sq ?_;refine rl ?_;refine o1 ?_;refine nl ?_;refine sq ?_;refine rl ?_;refine o1 ?_;refine nl ?_;refine sq ?_;refine sq ?_;refine rl ?_;refine o1 ?_;refine nl ?_;refine bl ?_
 refine lp (γ:=Nat) (fun k=>cE [(0,.one (.t (sU false xs))),(3,.one (.sl 0 0 (2*k))),(4,.one (tv (.int .i64 ((k:Nat):Int))))]) (fun k=>[(⟨3,1,(dF (hv (xs.take k))).map .t⟩:Ob)].map some) (fun k=>k≤xs.length) (fun k=>xs.length-k) 0 (Nat.zero_le _) ((nr (i:=3) 0 3 1 rfl rfl rfl rfl).trans (aQ h0 [0] _ _ (by decide) ⟨rfl,rfl,rfl,trivial⟩ ⟨cV (l:=[]) rfl,rfl⟩)) fun k hk=>?_
 have hn:=hl.nth (by omega) k
 refine sq ?_;refine sq ?_;refine rl ?_;(iterate 4 refine o1 ?_);refine nl ?_;refine bR rfl (fun h1=>?_) (fun h1=>?_)
 ·refine sk ?_;refine sq ?_;refine bl ?_;refine rd [] (fun i=>[15].contains i) mixed ?_
  refine dv 0 ?_;refine dv 1 ?_;refine dv 2 ?_;refine dv 3 ?_;refine pE 4 ([.v (.int .u32 ((nth xs (k):Nat):Int))]) (mP xs (k:=k) (by omega)) ?_
  refine dv 5 ?_;refine WD.cast (t:=16) (u':=.int .u32 ((nth xs k%65536:Nat):Int)) rfl (aI (fK _ 65536)) ?_;refine dv 6 ?_;refine dv 7 ?_;refine dv 8 ?_;refine dv 9 ?_
  refine pE 10 ([.v (.int .u32 ((nth xs (k):Nat):Int))]) (mP xs (k:=k) (by omega)) ?_
  refine dv 11 ?_ (hC:=(fH 65536 (by omega) (by simp only[fP];omega)))
  refine WD.cast (t:=22) (u':=.int .u32 ((nth xs k/65536:Nat):Int)) rfl (aI (eD _ 65536)) ?_;refine dv 12 ?_;refine Nk (key:=1) 13 (by kernel_rfl) rfl rfl aA rfl trivial ?_
  refine Zj (j:=2) 14 rfl aA rfl rfl rfl (.sl rfl (by rw[List.length_map,gD,oM,List.length_take];omega)) (.sl rfl rfl rfl) rfl rfl (by omega) (by omega) rfl rfl (by kernel_rfl) rfl ?_
  refine cZ 15 (by kernel_rfl) rfl rfl aA rfl (by trivial) ?_ (fun h=>by first | rfl | cases h)
  refine aU ?_;refine rl ?_;(iterate 3 refine o1 ?_);refine nl ?_
  exact⟨k+1,by omega,by omega,aQ h0 [2] _ _ (by decide) ⟨rfl,rfl,rfl,trivial⟩ ⟨lD rfl (gE _ [nth xs k%65536,nth xs k/65536]) (Mf (by omega)).symm,rfl⟩⟩
 refine ex ?_;refine sq ?_;refine rl ?_;refine WL.sub (tR (i:=3) (zs':=hv xs) rfl rfl rfl (by rw[oM,List.length_take];omega) (by rw[List.take_of_length_le (by omega)])) ?_
 refine o1 ?_;refine ca (Tu (by rw[oM];omega)) Zp ⟨a1 rfl,rfl⟩ (.one (.t (sI false (trim (hv xs))))) ?_
 refine o1 ?_;refine nl ?_;refine rt ?_;exact en (.inl rfl) rfl (aV (.one (.id rfl))) (by decide) (fun h=>by cases h) (by rw[AB hl];rfl)
theorem rN {xs:List Nat}(hx:xs.length≤4398046511104) (hl:Lim 65536 xs):aE true Tryz.prog 154 [] [.one (.t (sI false xs))] (aN (.one (.t (sU true (dg 4294967296 (vl 65536 xs)))))):=by
 refine bF Tryz.func154 rfl Tryz.ntmps154 rfl aA rfl fun N w c0 h0=>?_
 refine sq ?_;refine rl ?_;refine o1 ?_;refine nl ?_;refine sq ?_;refine rl ?_;refine o1 ?_;refine nl ?_;refine sq ?_;refine rl ?_;refine o1 ?_
 refine ca (Tu hx) Zp ⟨a1 rfl,rfl⟩ (.one (.t (sI false (trim xs)))) ?_;refine o1 ?_;refine nl ?_;refine sq ?_;refine sq ?_;have htl:=bZ xs
 have hlt:=hl.trim
 generalize hY:trim xs=ys at htl hlt;refine rl ?_;refine o1 ?_;refine nl ?_;refine bl ?_
 refine lp (γ:=Nat) (fun k=>cE [(0,.one (.t (sI false ys))),(3,.one (.sl 0 0 k)),(4,.one (tv (.int .i64 ((2*k:Nat):Int))))]) (fun k=>[(⟨115,1,(aR (lb (ys.take (2*k)))).map .t⟩:Ob)].map some) (fun k=>2*k≤ys.length+1) (fun k=>ys.length+1-2*k) 0 (Nat.zero_le _) ((nr (i:=3) 0 115 1 rfl rfl rfl rfl).trans (aQ h0 [0] _ _ (by decide) ⟨rfl,rfl,rfl,trivial⟩ ⟨cV (l:=[]) rfl,rfl⟩)) fun k hk=>?_
 have hn:=hlt.nth (by omega) (2*k)
 have hn2:=hlt.nth (by omega) (2*k+1)
 refine sq ?_;refine sq ?_;refine rl ?_;(iterate 4 refine o1 ?_);refine nl ?_;refine bR rfl (fun h1=>?_) (fun h1=>?_)
 ·refine sk ?_;refine sq ?_;refine bl ?_;refine sq ?_;refine rl ?_;refine o1 ?_;refine nl ?_;refine sq ?_;refine sq ?_;refine rl ?_;refine o1 ?_;refine o1 ?_
  refine WL.cast (t:=15) (u':=.int .i64 ((2*k+1:Nat):Int)) rfl (aI (by omega)) ?_
  (iterate 3 refine o1 ?_);refine nl ?_;refine bR rfl (fun h2=>?_) (fun h2=>?_)
  ·refine rl ?_;(iterate 3 refine o1 ?_);refine WL.cast (t:=21) (u':=.int .i64 ((2*k+1:Nat):Int)) rfl (aI (by omega)) ?_
   refine o1 ?_;refine kR ([.v (.int .i64 ((nth ys (2*k+1):Nat):Int))]) (eF ys (k:=2*k+1) (by omega)) ?_
   refine o1 ?_;refine nl ?_;refine rl ?_;(iterate 4 refine o1 ?_);refine kR ([.v (.int .i64 ((nth ys (2*k):Nat):Int))]) (eF ys (k:=2*k) (by omega)) ?_
   (iterate 5 refine o1 ?_);refine WL.cast (t:=33) (u':=.int .u32 ((nth ys (2*k)+65536*nth ys (2*k+1):Nat):Int)) rfl (aI (by omega)) ?_
   refine bs 1 ?_;refine jU (j:=2) aA rfl rfl rfl rfl (.sl rfl (by rw[List.length_map,gA,gQ,List.length_take];omega)) (.sl rfl rfl rfl) rfl rfl rfl (by omega) (by omega) ?_
   refine o1 ?_;refine nl ?_;refine rl ?_;(iterate 3 refine o1 ?_);refine nl ?_
   exact⟨k+1,by omega,by omega,aQ h0 [2] _ _ (by decide) ⟨rfl,rfl,rfl,trivial⟩ ⟨Tm rfl (Hu _ [nth ys (2*k)+65536*nth ys (2*k+1)]) (vO (by omega)).symm,rfl⟩⟩
  have hz:=dQ (l:=ys) (k:=2*k+1) (by omega)
  refine sk ?_;refine rl ?_;(iterate 4 refine o1 ?_);refine kR ([.v (.int .i64 ((nth ys (2*k):Nat):Int))]) (eF ys (k:=2*k) (by omega)) ?_
  (iterate 5 refine o1 ?_);refine WL.cast (t:=33) (u':=.int .u32 ((nth ys (2*k)+65536*nth ys (2*k+1):Nat):Int)) rfl (aI (by omega)) ?_
  refine bs 1 ?_;refine jU (j:=2) aA rfl rfl rfl rfl (.sl rfl (by rw[List.length_map,gA,gQ,List.length_take];omega)) (.sl rfl rfl rfl) rfl rfl rfl (by omega) (by omega) ?_
  refine o1 ?_;refine nl ?_;refine rl ?_;(iterate 3 refine o1 ?_);refine nl ?_
  exact⟨k+1,by omega,by omega,aQ h0 [2] _ _ (by decide) ⟨rfl,rfl,rfl,trivial⟩ ⟨Tm rfl (Hu _ [nth ys (2*k)+65536*nth ys (2*k+1)]) (vO (by omega)).symm,rfl⟩⟩
 refine ex ?_;refine sq ?_;refine rl ?_;refine o1 ?_;refine o1 ?_;refine nl ?_;refine rt ?_
 exact en (.inl rfl) rfl (aV (.one (.sl (trs:=aR (lb ys)) rfl rfl (by rw[List.take_of_length_le (l:=ys) (by omega),List.take_of_length_le (by simp[gA,gQ];omega)]) (by rw[gA,gQ];omega)))) (by decide) (fun _=>.inl ⟨rfl,dU _⟩) (by rw[←vN,dS (by omega) hl,hY];unfold sU;rw[show k=(lb ys).length by rw[gQ];omega];rfl)
theorem nJ {xs:List Nat}{k:Nat}:aE true Tryz.prog 153 [] [.one (.t (sI false xs)),.one (tv (.int .i64 ((k:Nat):Int)))] (aN (.one (tv (.int .i64 ((nth xs k:Nat):Int))))):=by
 refine bF Tryz.func153 rfl Tryz.ntmps153 rfl aA rfl fun N w c0 h0=>?_
 refine sq ?_;refine rl ?_;refine o1 ?_;refine nl ?_;refine sq ?_;refine sq ?_;refine rl ?_;(iterate 4 refine o1 ?_);refine nl ?_;refine bR rfl (fun h1=>?_) (fun h1=>?_)
 ·refine sq ?_;refine rl ?_;(iterate 3 refine o1 ?_);refine kR ([.v (.int .i64 ((nth xs (k):Nat):Int))]) (eF xs (k:=k) (by omega)) ?_
  refine o1 ?_;refine nl ?_;refine rt ?_;refine en (.inl rfl) rfl (aV (aO _)) (by decide) (fun _=>trivial) ?_
  rfl
 refine sk ?_;refine sq ?_;refine rl ?_;refine o1 ?_;refine nl ?_;refine rt ?_;refine en (.inl rfl) rfl (aV (aO _)) (by decide) (fun _=>trivial) ?_
 rw[dQ (by omega)];rfl
theorem EG {xs:List Nat}(hx:xs.length≤1099511627776) (hlx:Lim 4294967296 xs):aE true Tryz.prog 151 [] [.one (.t (sU false xs))] (aN (.one (.t (sU true (dg 4294967296 (vl 4294967296 xs)))))):=by
 refine bF Tryz.func151 rfl Tryz.ntmps151 rfl aA rfl fun N w c0 h0=>?_
 have hd:=dI (v:=vl 4294967296 xs) (L:=xs.length) (by rw[dS (by omega) hlx];exact bZ _)
 have hl9:=aM (B:=65536) (by omega) (vl 4294967296 xs)
 refine sq ?_;refine rl ?_;refine o1 ?_;refine nl ?_;refine sq ?_;refine rl ?_;refine o1 ?_
 refine ca (hJ hx hlx) pB ⟨a1 rfl,rfl⟩ (.one (.t (sI false (dg 65536 (vl 4294967296 xs))))) ?_;refine gH 0 (rN (by omega) (by assumption)) Dh ⟨a1 rfl,rfl⟩ ?_
 refine o1 ?_;refine nl ?_;refine rt ?_
 exact en (.inl rfl) rfl (aV (.one (.sl (trs:=aR (dg 4294967296 (vl 65536 (dg 65536 (vl 4294967296 xs))))) rfl rfl (bL _) (aX _)))) (by decide) (fun _=>.inl ⟨rfl,dU _⟩) (by rw[bK (by omega)];rfl)
theorem Ia {xs ys:List Nat}(hx:xs.length≤1099511627776) (hlx:Lim 4294967296 xs) (hy:ys.length≤1099511627776) (hly:Lim 4294967296 ys):aE true Tryz.prog 103 [] [.one (.t (sU false xs)),.one (.t (sU false ys))] (aN (.one (tv (.int .i64 (((vl 4294967296 xs:Nat):Int)-((vl 4294967296 ys:Nat):Int)).sign)))):=by
 refine bF Tryz.func103 rfl Tryz.ntmps103 rfl aA rfl fun N w c0 h0=>?_
 refine sq ?_;refine rl ?_;refine o1 ?_;refine nl ?_;refine sq ?_;refine rl ?_;refine o1 ?_
 refine ca (hJ hx hlx) pB ⟨a1 rfl,rfl⟩ (.one (.t (sI false (dg 65536 (vl 4294967296 xs))))) ?_;refine o1 ?_
 refine ca (hJ hy hly) pB ⟨a1 rfl,rfl⟩ (.one (.t (sI false (dg 65536 (vl 4294967296 ys))))) ?_;refine o1 ?_;refine o1 ?_;refine nl ?_;refine sq ?_;refine sq ?_
 have hdx:=dI (v:=vl 4294967296 xs) (L:=xs.length) (by rw[dS (by omega) hlx];exact bZ _)
 have hdy:=dI (v:=vl 4294967296 ys) (L:=ys.length) (by rw[dS (by omega) hly];exact bZ _)
 have hX:=aM (B:=65536) (by omega) (vl 4294967296 xs)
 have hY:=aM (B:=65536) (by omega) (vl 4294967296 ys)
 have hvX:=bK (B:=65536) (by omega) (vl 4294967296 xs)
 have hvY:=bK (B:=65536) (by omega) (vl 4294967296 ys)
 generalize dg 65536 (vl 4294967296 xs)=X at hdx hX hvX⊢;generalize dg 65536 (vl 4294967296 ys)=Y at hdy hY hvY⊢;refine rl ?_;(iterate 5 refine o1 ?_)
 refine WL.cast (t:=16) (u':=.int .i64 ((max X.length Y.length:Nat):Int)) rfl (aI (by omega)) ?_
 refine o1 ?_;refine o1 ?_;refine nl ?_;refine bl ?_
 refine lp (γ:=Nat) (fun k=>cE [(5,.one (.t (sI false X))),(6,.one (.t (sI false Y))),(7,.one (tv (.int .i64 ((k:Nat)-1))))]) (fun k=>([]:List Ob).map some) (fun k=>(∀j,k≤j→nth X j=nth Y j)∧k≤max X.length Y.length) (fun k=>k) (max X.length Y.length) ⟨fun j hj=>by rw[dQ (by omega),dQ (by omega)],Nat.le_refl _⟩ (aQ h0 [] _ _ (by decide) ⟨rfl,rfl,rfl,trivial⟩ rfl) fun k hk=>?_
 refine sq ?_;refine sq ?_;refine rl ?_;refine o1 ?_;refine o1 ?_;refine nl ?_;refine bR rfl (fun h1=>?_) (fun h1=>?_)
 ·refine sk ?_;refine sq ?_;refine bl ?_;refine sq ?_;refine sq ?_;refine rl ?_;refine o1 ?_;refine o1 ?_
  refine WL.cast (t:=23) (u':=.int .i64 ((k-1:Nat):Int)) rfl (aI (by omega)) ?_
  refine ca (nJ) nH ⟨a1 rfl,a1 rfl,rfl⟩ (.one (tv (.int .i64 ((nth X (k-1):Nat):Int)))) ?_;refine o1 ?_;refine o1 ?_
  refine WL.cast (t:=26) (u':=.int .i64 ((k-1:Nat):Int)) rfl (aI (by omega)) ?_
  refine ca (nJ) nH ⟨a1 rfl,a1 rfl,rfl⟩ (.one (tv (.int .i64 ((nth Y (k-1):Nat):Int)))) ?_;refine o1 ?_;refine nl ?_;refine bR rfl (fun h2=>?_) (fun h2=>?_)
  ·refine sq ?_;refine rl ?_;refine o1 ?_;refine nl ?_;refine rt ?_;refine en (.inl rfl) rfl (aV (aO _)) (by decide) (fun _=>trivial) (congrArg (fun z=>FV.one (tv (.int .i64 z))) ?_)
   have he:=Dp (X:=X) (Y:=Y) (k:=k-1) hX (fun j hj=>hk.1 j (by omega)) (by omega)
   rw[hvX,hvY]at he;rw[Int.sign_eq_neg_one_of_neg (by omega)]
  refine sk ?_;refine sq ?_;refine rl ?_;refine o1 ?_;refine o1 ?_;refine WL.cast (t:=30) (u':=.int .i64 ((k-1:Nat):Int)) rfl (aI (by omega)) ?_
  refine ca (nJ) nH ⟨a1 rfl,a1 rfl,rfl⟩ (.one (tv (.int .i64 ((nth X (k-1):Nat):Int)))) ?_;refine o1 ?_;refine o1 ?_
  refine WL.cast (t:=33) (u':=.int .i64 ((k-1:Nat):Int)) rfl (aI (by omega)) ?_
  refine ca (nJ) nH ⟨a1 rfl,a1 rfl,rfl⟩ (.one (tv (.int .i64 ((nth Y (k-1):Nat):Int)))) ?_;refine o1 ?_;refine nl ?_;refine bR rfl (fun h3=>?_) (fun h3=>?_)
  ·refine sq ?_;refine rl ?_;refine o1 ?_;refine nl ?_;refine rt ?_;refine en (.inl rfl) rfl (aV (aO _)) (by decide) (fun _=>trivial) (congrArg (fun z=>FV.one (tv (.int .i64 z))) ?_)
   have he:=Dp (X:=Y) (Y:=X) (k:=k-1) hY (fun j hj=>(hk.1 j (by omega)).symm) (by omega)
   rw[hvX,hvY]at he;rw[Int.sign_eq_one_of_pos (by omega)]
  refine sk ?_;refine rl ?_;(iterate 3 refine o1 ?_);refine nl ?_
  exact⟨k-1,by omega,⟨fun j hj=>(Nat.eq_or_lt_of_le hj).elim (fun h9=>by rw[←h9];omega) (fun h9=>hk.1 j (by omega)),by omega⟩,aQ h0 [] _ _ (by decide) ⟨rfl,rfl,congrArg (fun z=>some (FV.one (tv (.int .i64 z)))) (by omega),trivial⟩ rfl⟩
 refine ex ?_;refine sq ?_;refine rl ?_;refine o1 ?_;refine nl ?_;refine rt ?_
 refine en (.inl rfl) rfl (aV (aO _)) (by decide) (fun _=>trivial) (congrArg (fun z=>FV.one (tv (.int .i64 z))) ?_)
 have he:=Tj (fun j=>hk.1 j (by omega))
 rw[hvX,hvY]at he;rw[he,Int.sub_self];rfl
theorem KW {xs ys:List Nat}(hx:xs.length≤1099511627776) (hlx:Lim 4294967296 xs) (hy:ys.length≤1099511627776) (hly:Lim 4294967296 ys):aE true Tryz.prog 104 [] [.one (.t (sU false xs)),.one (.t (sU false ys))] (aN (.one (.t (sU true (dg 4294967296 (vl 4294967296 xs+vl 4294967296 ys)))))):=by
 refine bF Tryz.func104 rfl Tryz.ntmps104 rfl aA rfl fun N w c0 h0=>?_
 refine sq ?_;refine rl ?_;refine o1 ?_;refine nl ?_;refine sq ?_;refine rl ?_;refine o1 ?_
 refine ca (hJ hx hlx) pB ⟨a1 rfl,rfl⟩ (.one (.t (sI false (dg 65536 (vl 4294967296 xs))))) ?_;refine o1 ?_
 refine ca (hJ hy hly) pB ⟨a1 rfl,rfl⟩ (.one (.t (sI false (dg 65536 (vl 4294967296 ys))))) ?_;refine o1 ?_;refine o1 ?_;refine nl ?_;refine sq ?_
 have hdx:=dI (v:=vl 4294967296 xs) (L:=xs.length) (by rw[dS (by omega) hlx];exact bZ _)
 have hdy:=dI (v:=vl 4294967296 ys) (L:=ys.length) (by rw[dS (by omega) hly];exact bZ _)
 have hX:=aM (B:=65536) (by omega) (vl 4294967296 xs)
 have hY:=aM (B:=65536) (by omega) (vl 4294967296 ys)
 have hvX:=bK (B:=65536) (by omega) (vl 4294967296 xs)
 have hvY:=bK (B:=65536) (by omega) (vl 4294967296 ys)
 generalize dg 65536 (vl 4294967296 xs)=X at hdx hX hvX⊢;generalize dg 65536 (vl 4294967296 ys)=Y at hdy hY hvY⊢;refine rl ?_;refine o1 ?_;refine nl ?_;refine sq ?_;refine rl ?_
 refine o1 ?_;refine nl ?_;refine sq ?_;refine sq ?_;refine rl ?_;refine o1 ?_;refine nl ?_;refine bl ?_
 refine lp (γ:=Nat×Nat×List Nat) (fun s=>cE [(5,.one (.t (sI false X))),(6,.one (.t (sI false Y))),(7,.one (.sl 0 0 s.1)),(8,.one (tv (.int .i64 ((s.2.1:Nat):Int)))),(9,.one (tv (.int .i64 ((s.1:Nat):Int))))]) (fun s=>[(⟨3,1,(dF s.2.2).map .t⟩:Ob)].map some) (fun s=>s.2.2.length=s.1∧Lim 65536 s.2.2∧vl 65536 s.2.2+65536^s.1*s.2.1=vl 65536 (X.take s.1)+vl 65536 (Y.take s.1)∧s.2.1≤1∧(s.1≤max X.length Y.length∨s.1=max X.length Y.length+1∧s.2.1=0)) (fun s=>max X.length Y.length+1-s.1) (0,0,[]) ⟨rfl,Lim.nil,rfl,Nat.zero_le _,.inl (Nat.zero_le _)⟩ ((nr (i:=7) 0 3 1 rfl rfl rfl rfl).trans (aQ h0 [0] _ _ (by decide) ⟨rfl,rfl,rfl,rfl,rfl,trivial⟩ ⟨cV (l:=[]) rfl,rfl⟩)) ?_
 rintro⟨k,cr,os⟩ ⟨hos,hol,hv,hc1,hkm⟩;dsimp only at hos hol hv hc1 hkm⊢;have hn1:=hX.nth (by omega) k
 have hn2:=hY.nth (by omega) k
 refine sq ?_;refine sq ?_;refine rl ?_;(iterate 6 refine o1 ?_);refine WL.cast (t:=20) (u':=.int .i64 ((max X.length Y.length:Nat):Int)) rfl (aI (by omega)) ?_
 refine o1 ?_;refine o1 ?_;refine WL.split (t:=22) rfl (fun h1=>?_) (fun h1=>?_)
 ·refine cH ?_;refine cH ?_;refine o1 ?_;refine nl ?_;refine fX rfl ?_;refine sk ?_;refine sq ?_;refine bl ?_;refine sq ?_;refine rl ?_;refine o1 ?_;refine o1 ?_
  refine ca (nJ) nH ⟨a1 rfl,a1 rfl,rfl⟩ (.one (tv (.int .i64 ((nth X (k):Nat):Int)))) ?_;refine o1 ?_;refine o1 ?_
  refine ca (nJ) nH ⟨a1 rfl,a1 rfl,rfl⟩ (.one (tv (.int .i64 ((nth Y (k):Nat):Int)))) ?_;(iterate 3 refine o1 ?_)
  refine WL.cast (t:=36) (u':=.int .i64 ((nth X k+nth Y k+cr:Nat):Int)) rfl (aI (by omega)) ?_
  refine o1 ?_;refine nl ?_;refine sq ?_;refine rl ?_;(iterate 3 refine o1 ?_)
  refine WL.cast (t:=39) (u':=.int .i64 (((nth X k+nth Y k+cr)%65536:Nat):Int)) rfl (aI (fK _ 65536)) ?_;refine bs 1 ?_
  refine jU (j:=2) aA rfl rfl rfl rfl (.sl rfl (by rw[List.length_map,gD,hos];omega)) (.sl rfl rfl rfl) rfl rfl rfl (by omega) (by omega) ?_
  refine o1 ?_;refine nl ?_;refine rl ?_;refine o1 ?_;refine o1 ?_ (hC:=(fH 65536 (by omega) (by simp only[fP];omega)))
  refine WL.cast (t:=43) (u':=.int .i64 (((nth X k+nth Y k+cr)/65536:Nat):Int)) rfl (aI (eD _ 65536)) ?_;refine o1 ?_;refine nl ?_;refine rl ?_;(iterate 3 refine o1 ?_)
  refine nl ?_;have hst:=Hr hos hv
  have hz1:X.length≤k→nth X k=0:=fun h=>dQ (by omega)
  have hz2:Y.length≤k→nth Y k=0:=fun h=>dQ (by omega)
  exact⟨(k+1,(nth X k+nth Y k+cr)/65536,os++[(nth X k+nth Y k+cr)%65536]),by dsimp only;omega,⟨by simp[hos],hol.append (Lim.cons (Nat.mod_lt _ (by omega)) Lim.nil),hst,by dsimp only;omega,by dsimp only;omega⟩,aQ h0 [2] _ _ (by decide) ⟨rfl,rfl,rfl,rfl,rfl,trivial⟩ ⟨lD rfl (gE _ [(nth X k+nth Y k+cr)%65536]) rfl,rfl⟩⟩
 (iterate 3 refine o1 ?_);refine nl ?_;refine bR rfl (fun h2=>?_) (fun h2=>?_)
 ·refine sk ?_;refine sq ?_;refine bl ?_;refine sq ?_;refine rl ?_;refine o1 ?_;refine o1 ?_
  refine ca (nJ) nH ⟨a1 rfl,a1 rfl,rfl⟩ (.one (tv (.int .i64 ((nth X (k):Nat):Int)))) ?_;refine o1 ?_;refine o1 ?_
  refine ca (nJ) nH ⟨a1 rfl,a1 rfl,rfl⟩ (.one (tv (.int .i64 ((nth Y (k):Nat):Int)))) ?_;(iterate 3 refine o1 ?_)
  refine WL.cast (t:=36) (u':=.int .i64 ((nth X k+nth Y k+cr:Nat):Int)) rfl (aI (by omega)) ?_
  refine o1 ?_;refine nl ?_;refine sq ?_;refine rl ?_;(iterate 3 refine o1 ?_)
  refine WL.cast (t:=39) (u':=.int .i64 (((nth X k+nth Y k+cr)%65536:Nat):Int)) rfl (aI (fK _ 65536)) ?_;refine bs 1 ?_
  refine jU (j:=2) aA rfl rfl rfl rfl (.sl rfl (by rw[List.length_map,gD,hos];omega)) (.sl rfl rfl rfl) rfl rfl rfl (by omega) (by omega) ?_
  refine o1 ?_;refine nl ?_;refine rl ?_;refine o1 ?_;refine o1 ?_ (hC:=(fH 65536 (by omega) (by simp only[fP];omega)))
  refine WL.cast (t:=43) (u':=.int .i64 (((nth X k+nth Y k+cr)/65536:Nat):Int)) rfl (aI (eD _ 65536)) ?_;refine o1 ?_;refine nl ?_;refine rl ?_;(iterate 3 refine o1 ?_)
  refine nl ?_;have hst:=Hr hos hv
  have hz1:X.length≤k→nth X k=0:=fun h=>dQ (by omega)
  have hz2:Y.length≤k→nth Y k=0:=fun h=>dQ (by omega)
  exact⟨(k+1,(nth X k+nth Y k+cr)/65536,os++[(nth X k+nth Y k+cr)%65536]),by dsimp only;omega,⟨by simp[hos],hol.append (Lim.cons (Nat.mod_lt _ (by omega)) Lim.nil),hst,by dsimp only;omega,by dsimp only;omega⟩,aQ h0 [2] _ _ (by decide) ⟨rfl,rfl,rfl,rfl,rfl,trivial⟩ ⟨lD rfl (gE _ [(nth X k+nth Y k+cr)%65536]) rfl,rfl⟩⟩
 refine ex ?_;refine sq ?_;refine rl ?_;have hc0:cr=0:=by omega
 rw[hc0,Nat.mul_zero,Nat.add_zero,bM 65536 (by omega),bM 65536 (by omega),hvX,hvY]at hv
 refine WL.sub (tR (i:=7) (zs':=os) rfl rfl rfl (by omega) rfl) ?_
 refine o1 ?_;refine gH 1 (rN (by omega) (by assumption)) Dh ⟨a1 rfl,rfl⟩ ?_
 refine o1 ?_;refine nl ?_;refine rt ?_
 exact en (.inl rfl) rfl (aV (.one (.sl (trs:=aR (dg 4294967296 (vl 65536 os))) rfl rfl (bL _) (aX _)))) (by decide) (fun _=>.inl ⟨rfl,dU _⟩) (by rw[hv];rfl)
theorem Tv {xs ys:List Nat}(hx:xs.length≤1099511627776) (hlx:Lim 4294967296 xs) (hy:ys.length≤1099511627776) (hly:Lim 4294967296 ys):aE true Tryz.prog 105 [] [.one (.t (sU false xs)),.one (.t (sU false ys))] (aN (.tup [.one (.t (sU true (dg 4294967296 (vl 4294967296 xs-vl 4294967296 ys)))),.one (tv (.int .i64 (if vl 4294967296 xs<vl 4294967296 ys then 2 else 0)))])):=by
 refine bF Tryz.func105 rfl Tryz.ntmps105 rfl aA rfl fun N w c0 h0=>?_
 refine sq ?_;refine rl ?_;refine o1 ?_;refine o1 ?_;refine nl ?_;refine sq ?_;refine sq ?_;refine rl ?_;refine o1 ?_;refine o1 ?_
 refine ca (Ia hx hlx hy hly) Oo ⟨a1 rfl,a1 rfl,rfl⟩ (.one (tv (.int .i64 (((vl 4294967296 xs:Nat):Int)-((vl 4294967296 ys:Nat):Int)).sign))) ?_;refine o1 ?_;refine nl ?_
 refine bR rfl (fun h1=>?_) (fun h1=>?_)
 ·refine sq ?_;refine rl ?_;refine o1 ?_;refine o1 ?_;refine nl ?_;refine rt ?_;have hlt:=KO h1
  exact en (.inl rfl) rfl (dB (.cons (.one (.nil (t:=115) (z:=1))) (.cons (aO _) .nil))) (by decide) (fun _=>⟨.inl ⟨rfl,trivial⟩,trivial,trivial⟩) (by rw[Nat.sub_eq_zero_of_le (Nat.le_of_lt hlt),if_pos hlt];rfl)
 refine sk ?_;refine sq ?_;refine rl ?_;refine o1 ?_;refine ca (hJ hx hlx) pB ⟨a1 rfl,rfl⟩ (.one (.t (sI false (dg 65536 (vl 4294967296 xs))))) ?_;refine o1 ?_
 refine ca (hJ hy hly) pB ⟨a1 rfl,rfl⟩ (.one (.t (sI false (dg 65536 (vl 4294967296 ys))))) ?_;refine o1 ?_;refine o1 ?_;refine nl ?_;refine sq ?_
 have hge:vl 4294967296 ys≤vl 4294967296 xs:=KN h1
 have hyx:=cF (B:=65536) (by omega) hge
 have hdx:=dI (v:=vl 4294967296 xs) (L:=xs.length) (by rw[dS (by omega) hlx];exact bZ _)
 have hdy:=dI (v:=vl 4294967296 ys) (L:=ys.length) (by rw[dS (by omega) hly];exact bZ _)
 have hX:=aM (B:=65536) (by omega) (vl 4294967296 xs)
 have hY:=aM (B:=65536) (by omega) (vl 4294967296 ys)
 have hvX:=bK (B:=65536) (by omega) (vl 4294967296 xs)
 have hvY:=bK (B:=65536) (by omega) (vl 4294967296 ys)
 generalize dg 65536 (vl 4294967296 xs)=X at hdx hX hvX hyx⊢;generalize dg 65536 (vl 4294967296 ys)=Y at hdy hY hvY hyx⊢;refine rl ?_;refine o1 ?_;refine nl ?_;refine sq ?_;refine rl ?_
 refine o1 ?_;refine nl ?_;refine sq ?_;refine sq ?_;refine rl ?_;refine o1 ?_;refine nl ?_;refine bl ?_
 refine lp (γ:=Nat×Nat×List Nat) (fun s=>cE [(6,.one (.t (sI false X))),(7,.one (.t (sI false Y))),(8,.one (.sl 0 0 s.1)),(9,.one (tv (.int .i64 ((s.2.1:Nat):Int)))),(10,.one (tv (.int .i64 ((s.1:Nat):Int))))]) (fun s=>[(⟨3,1,(dF s.2.2).map .t⟩:Ob)].map some) (fun s=>s.2.2.length=s.1∧Lim 65536 s.2.2∧vl 65536 s.2.2+vl 65536 (Y.take s.1)=vl 65536 (X.take s.1)+65536^s.1*s.2.1∧s.2.1≤1∧s.1≤X.length) (fun s=>X.length-s.1) (0,0,[]) ⟨rfl,Lim.nil,rfl,Nat.zero_le _,Nat.zero_le _⟩ ((nr (i:=8) 0 3 1 rfl rfl rfl rfl).trans (aQ h0 [0] _ _ (by decide) ⟨rfl,rfl,rfl,rfl,rfl,trivial⟩ ⟨cV (l:=[]) rfl,rfl⟩)) ?_
 rintro⟨k,br,os⟩ ⟨hos,hol,hv,hc1,hkm⟩;dsimp only at hos hol hv hc1 hkm⊢;have hn1:=hX.nth (by omega) k
 have hn2:=hY.nth (by omega) k
 refine sq ?_;refine sq ?_;refine rl ?_;(iterate 4 refine o1 ?_);refine nl ?_;refine bR rfl (fun h2=>?_) (fun h2=>?_)
 ·refine sk ?_;refine sq ?_;refine bl ?_;refine sq ?_;refine rd [] (fun i=>[10].contains i) mixed ?_
  refine dv 0 ?_;refine dv 1 ?_;refine dv 2 ?_;refine pE 3 ([.v (.int .i64 ((nth X (k):Nat):Int))]) (eF X (k:=k) (by omega)) ?_
  refine dv 4 ?_;refine dv 5 ?_;refine dv 8 ?_;refine aJ 6 rfl (nJ) nH ⟨a1 rfl,a1 rfl,rfl⟩ (.one (tv (.int .i64 ((nth Y (k):Nat):Int)))) ?_;refine df 7 ?_;refine df 9 ?_
  refine cZ 10 (by kernel_rfl) rfl rfl aA rfl (by trivial) ?_ (fun h=>by first | rfl | cases h)
  refine aU ?_;refine sq ?_;refine rl ?_;refine o1 ?_;refine nl ?_;refine sq ?_;refine sq ?_;refine rl ?_;refine o1 ?_;refine o1 ?_;refine nl ?_
  refine bR rfl (fun h3=>?_) (fun h3=>?_)
  ·refine sq ?_;refine rl ?_;(iterate 3 refine o1 ?_);refine nl ?_;refine rl ?_;refine o1 ?_;refine nl ?_;refine rl ?_
   refine WL.cast (t:=11) (u':=.int .i64 (((nth X k+65536-nth Y k-br:Nat)):Int)) rfl (aI (by omega)) ?_
   refine o1 ?_;refine o1 ?_;refine bs 1 ?_
   refine jU (j:=2) aA rfl rfl rfl rfl (.sl rfl (by rw[List.length_map,gD,hos];omega)) (.sl rfl rfl rfl) rfl rfl rfl (by omega) (by omega) ?_
   refine o1 ?_;refine nl ?_;refine rl ?_;(iterate 3 refine o1 ?_);refine nl ?_;have hst:=Ht (d:=nth X k+65536-nth Y k-br) (br':=1) hos hv (by omega)
   exact⟨(k+1,1,os++[nth X k+65536-nth Y k-br]),by dsimp only;omega,⟨by simp[hos],hol.append (Lim.cons (by omega) Lim.nil),hst,by dsimp only;omega,by dsimp only;omega⟩,aQ h0 [2] _ _ (by decide) ⟨rfl,rfl,rfl,rfl,rfl,trivial⟩ ⟨lD rfl (gE _ [nth X k+65536-nth Y k-br]) rfl,rfl⟩⟩
  refine sk ?_;refine rl ?_;refine WL.cast (t:=11) (u':=.int .i64 (((nth X k-nth Y k-br:Nat)):Int)) rfl (aI (by omega)) ?_
  refine o1 ?_;refine o1 ?_;refine bs 1 ?_
  refine jU (j:=2) aA rfl rfl rfl rfl (.sl rfl (by rw[List.length_map,gD,hos];omega)) (.sl rfl rfl rfl) rfl rfl rfl (by omega) (by omega) ?_
  refine o1 ?_;refine nl ?_;refine rl ?_;(iterate 3 refine o1 ?_);refine nl ?_;have hst:=Ht (d:=nth X k-nth Y k-br) (br':=0) hos hv (by omega)
  exact⟨(k+1,0,os++[nth X k-nth Y k-br]),by dsimp only;omega,⟨by simp[hos],hol.append (Lim.cons (by omega) Lim.nil),hst,by dsimp only;omega,by dsimp only;omega⟩,aQ h0 [2] _ _ (by decide) ⟨rfl,rfl,rfl,rfl,rfl,trivial⟩ ⟨lD rfl (gE _ [nth X k-nth Y k-br]) rfl,rfl⟩⟩
 refine ex ?_;refine sq ?_;refine rl ?_;have hoo:=dY hol
 rw[hos]at hoo;rw[bM 65536 (l:=X) (by omega),bM 65536 (l:=Y) (by omega),hvX,hvY]at hv
 have hb0:br=0:=by
  rcases Nat.eq_zero_or_pos br with h0 | h0
  ·exact h0
  have h1:br=1:=by omega
  rw[h1,Nat.mul_one,show k=X.length by omega]at hv
  rw[show k=X.length by omega]at hoo
  omega
 rw[hb0,Nat.mul_zero,Nat.add_zero]at hv;have he:vl 65536 os=vl 4294967296 xs-vl 4294967296 ys:=by omega
 refine WL.sub (tR (i:=8) (zs':=os) rfl rfl rfl (by omega) rfl) ?_
 refine o1 ?_;refine gH 1 (rN (by omega) (by assumption)) Dh ⟨a1 rfl,rfl⟩ ?_
 refine o1 ?_;refine o1 ?_;refine nl ?_;refine rt ?_
 exact en (.inl rfl) rfl (dB (.cons (.one (.sl (trs:=aR (dg 4294967296 (vl 65536 os))) rfl rfl (bL _) (aX _))) (.cons (aO _) .nil))) (by decide) (fun _=>⟨.inl ⟨rfl,dU _⟩,trivial,trivial⟩) (by rw[he,if_neg (by omega)];rfl)
end Go.Proofs.YtcaakamelngceaaGreatDoor
