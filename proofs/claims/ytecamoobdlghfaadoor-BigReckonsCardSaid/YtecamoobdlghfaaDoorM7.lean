/- Part 7 of a proof: Big6 to A2. -/
import Derived.Test.YtecamoobdlghfaaDoorM6
import Derived.Test.YtecamoobdlghfaaDoorM1
import Derived.KernelRfl
import Derived.Test.YtecamoobdlghfaaDoorProg
import Derived.Test.YtecamoobdlghfaaDoorM4
import Derived.Test.YtecamoobdlghfaaDoorM5
set_option maxRecDepth 100000
set_option linter.unusedVariables false
set_option linter.unusedSimpArgs false
namespace Go.Proofs.YtecamoobdlghfaaDoor
open Go Go.RowKit
theorem Dv {u:Nat}(h:u<18446744073709551616):dg 4294967296 u=trim [u%4294967296,u/4294967296]:=by
 have e:vl 4294967296 [u%4294967296,u/4294967296]=u:=by
  simp only[vl]
  omega
 have hl:Lim 4294967296 [u%4294967296,u/4294967296]:=by
  intro x hx
  simp at hx
  omega
 rw[←cT (by omega) hl,e]
theorem wG (w:World) (x y:Nat) (hx:x<4294967296) (hy:y<4294967296) (e:TypeId):U32 (w.alloc (.cells #[.int .u32 (x:Int),.int .u32 (y:Int)] e)) (w.alloc (.cells #[.int .u32 (x:Int),.int .u32 (y:Int)] e)).heap.size (some ⟨w.heap.size,0,none⟩) 2 2 [x,y]:=by
 refine⟨⟨rfl,Nat.le_refl _,by omega,fun _=>⟨⟨w.heap.size,0,none⟩,rfl,by simp,fun k u hk=>?_⟩⟩,fun z hz=>by simp at hz;omega⟩
 match k with
 | 0=>
  have e1:(⟨w.heap.size,0,none⟩:Addr).add 0=⟨w.heap.size,0,none⟩:=rfl
  rw[e1,iG _ _ _ 0 rfl]
  simpa[dH]using hk
 | 1=>
  have e1:(⟨w.heap.size,0,none⟩:Addr).add 1=⟨w.heap.size,1,none⟩:=rfl
  rw[e1,iG _ _ _ 1 rfl]
  simpa[dH]using hk
 | k+2=>simp[dH]at hk
set_option maxHeartbeats 2000000 in
theorem Pu (z:Int) (w:World) (h1:-9223372036854775808≤z) (h2:z≤9223372036854775807):
  Calls Tryd.prog 32 #[.int .i64 z] w (Pt z w):=by
 by_cases hz:z<0
 ·have e0:IntKind.u64.wrap (-IntKind.u64.wrap z)=(z.natAbs:Int):=by
   rw[IntKind.wrap_u64,IntKind.wrap_u64]
   omega
  have e1:IntKind.u64.wrap (-IntKind.u64.wrap z)%4294967296=((z.natAbs%4294967296:Nat):Int):=by rw[e0];omega
  have e2:IntKind.u64.wrap (-IntKind.u64.wrap z)/4294967296%4294967296=((z.natAbs/4294967296:Nat):Int):=by rw[e0];omega
  have E1:=Lib.hid e1
  have E2:=Lib.hid e2
  clear e0 e1 e2
  go_enter Tryd.func32,Tryd.ntmps32
  go_upto_region 1 with fail
  refine Is (fun W0=>Hld w.heap.size w w.heap.size w.heap.size 2 W0 W0) ?_ ?_
  ·refine⟨by(repeat (first | exact Below.refl _ _ | assumption | refine Below.drew ?_ | refine Below.setCell ?_ (by first | exact Nat.le_refl _ | (simp;done) | (simp;omega) | omega) _ | refine Below.alloc ?_ (by first | exact Nat.le_refl _ | exact Below.size (by assumption) | (simp;done) | (simp;omega) | omega) _)),by simp,by simp,by omega,by omega,fun _ _ _ _=>rfl,fun o ho=>?_⟩
   match o,ho with
   | 0,_=>constructor <;> go_simp
   | 1,_=>constructor <;> go_simp
  intro W0 hH0
  go_wp2_with fail
  rw[E1.out,E2.out]
  refine(cS _ 2 2 [z.natAbs%4294967296,z.natAbs/4294967296] _ (wG W0 _ _ (by omega) (by omega) _) (by omega)).mono ?_
  rintro e w1 ⟨A1,n1,c1,rfl,h3,hb1⟩
  rw[←Dv (by omega)]at h3
  have hH1:=(hH0.alloc _).call hb1
  have h3:=h3.base_le (hH0.alloc _).base
  have hl3:=h3.len
  have hcap3:=h3.u32.cap
  have hbig3:=h3.u32.big
  have HL3:=Lib.hid hl3
  clear hl3
  go_wp2_with fail
  refine(rP _ A1 n1 c1 (by omega) _).mono ?_
  rintro e w2 ⟨rfl,hb2⟩
  rw[rO HL3.out,show aX true z.natAbs=z by unfold aX;simp;omega]
  have h3:=h3.over hb2
  have hH2:=hH1.call hb2
  obtain⟨v0,hv0⟩:=hH2.res 0 (by omega)
  obtain⟨v1,hv1⟩:=hH2.res 1 (by omega)
  have hf0:=hH2.fro 0 (by omega)
  have hf1:=hH2.fro 1 (by omega)
  go_wp2_with fail
  refine bodyPost_ret (v:=.agg #[.bool (aB z),.slice A1 n1 c1]) (by simp[results,Tryd.results32,go_sem,World.cell?_setCell_other,hv0,hv1]) rfl ⟨A1,n1,c1,rfl,?_,?_⟩
  ·refine Own.base_le (((h3.setLow ?_ _).setLow ?_ _)) (by omega) <;> simp
  (have hb:=hH2.bel;(repeat (first | exact Below.refl _ _ | assumption | refine Below.drew ?_ | refine Below.setCell ?_ (by first | exact Nat.le_refl _ | (simp;done) | (simp;omega) | omega) _ | refine Below.alloc ?_ (by first | exact Nat.le_refl _ | exact Below.size (by assumption) | (simp;done) | (simp;omega) | omega) _)))
 have e1:z%4294967296=((z.natAbs%4294967296:Nat):Int):=by omega
 have e2:z/4294967296=((z.natAbs/4294967296:Nat):Int):=by omega
 have E1:=Lib.hid e1
 have E2:=Lib.hid e2
 clear e1 e2
 go_enter Tryd.func32,Tryd.ntmps32
 go_upto_region 1 with fail
 refine Is (fun W0=>Hld w.heap.size w w.heap.size w.heap.size 2 W0 W0) ?_ ?_
 ·refine⟨by(repeat (first | exact Below.refl _ _ | assumption | refine Below.drew ?_ | refine Below.setCell ?_ (by first | exact Nat.le_refl _ | (simp;done) | (simp;omega) | omega) _ | refine Below.alloc ?_ (by first | exact Nat.le_refl _ | exact Below.size (by assumption) | (simp;done) | (simp;omega) | omega) _)),by simp,by simp,by omega,by omega,fun _ _ _ _=>rfl,fun o ho=>?_⟩
  match o,ho with
  | 0,_=>constructor <;> go_simp
  | 1,_=>constructor <;> go_simp
 intro W0 hH0
 go_wp2_with fail
 rw[E1.out,E2.out]
 refine(cS _ 2 2 [z.natAbs%4294967296,z.natAbs/4294967296] _ (wG W0 _ _ (by omega) (by omega) _) (by omega)).mono ?_
 rintro e w1 ⟨A1,n1,c1,rfl,h3,hb1⟩
 rw[←Dv (by omega)]at h3
 have hH1:=(hH0.alloc _).call hb1
 have h3:=h3.base_le (hH0.alloc _).base
 have hl3:=h3.len
 have hcap3:=h3.u32.cap
 have hbig3:=h3.u32.big
 have HL3:=Lib.hid hl3
 clear hl3
 go_wp2_with fail
 refine(rP _ A1 n1 c1 (by omega) _).mono ?_
 rintro e w2 ⟨rfl,hb2⟩
 rw[rO HL3.out,show aX false z.natAbs=z by unfold aX;simp;omega]
 have h3:=h3.over hb2
 have hH2:=hH1.call hb2
 obtain⟨v0,hv0⟩:=hH2.res 0 (by omega)
 obtain⟨v1,hv1⟩:=hH2.res 1 (by omega)
 have hf0:=hH2.fro 0 (by omega)
 have hf1:=hH2.fro 1 (by omega)
 go_wp2_with fail
 refine bodyPost_ret (v:=.agg #[.bool (aB z),.slice A1 n1 c1]) (by simp[results,Tryd.results32,go_sem,World.cell?_setCell_other,hv0,hv1]) rfl ⟨A1,n1,c1,rfl,?_,?_⟩
 ·refine Own.base_le (((h3.setLow ?_ _).setLow ?_ _)) (by omega) <;> simp
 (have hb:=hH2.bel;(repeat (first | exact Below.refl _ _ | assumption | refine Below.drew ?_ | refine Below.setCell ?_ (by first | exact Nat.le_refl _ | (simp;done) | (simp;omega) | omega) _ | refine Below.alloc ?_ (by first | exact Nat.le_refl _ | exact Below.size (by assumption) | (simp;done) | (simp;omega) | omega) _)))
def Pv (na:Bool) (xs:List Nat) (nb:Bool) (ys:List Nat):Bool:=cA na xs&&cA nb ys&&decide (0<hJ nb ys)&&(Int.gcd (hJ na xs) (hJ nb ys)==1)
theorem sO {xs:List Nat}(hl:Lim 4294967296 xs){neg:Bool}:(dg 4294967296 (hJ neg xs).natAbs).length≤xs.length:=by
 cases h:cA neg xs
 ·rw[Ds h,show dg 4294967296 (Int.natAbs 0)=[] from(dA (by omega)).2 rfl]
  simp
 rw[pC hl h]
 exact Nat.le_refl _
def Vr (na:Bool) (xs:List Nat) (nb:Bool) (ys:List Nat):Rat:=if Pv na xs nb ys then Rat.divInt (hJ na xs) (hJ nb ys)else 0
def Sz (L:Nat) (q:Rat):Prop:=(dg 4294967296 q.num.natAbs).length≤L∧(dg 4294967296 q.den).length≤L
def Src (b0 base:Nat) (w:World) (A:Option Addr) (n c:Nat) (xs:List Nat):Prop:=U32 w b0 A n c xs∨Own 70 w base A n c xs
theorem Src.below {b0 base n c:Nat}{w w':World}{A:Option Addr}{xs:List Nat}(h:Src b0 base w A n c xs) (h0:b0≤w.heap.size) (hb:Below w.heap.size w w'):Src b0 base w' A n c xs:=by
 rcases h with h | h
 ·exact .inl (h.below (hb.mono h0))
 exact .inr (h.below hb)
theorem Src.u32 {b0 base n c:Nat}{w:World}{A:Option Addr}{xs:List Nat}(h:Src b0 base w A n c xs) (h0:b0≤w.heap.size):U32 w w.heap.size A n c xs:=by
 rcases h with h | h
 ·exact h.more h0
 exact h.u32
theorem Src.setCell {b0 base n c:Nat}{w:World}{A:Option Addr}{xs:List Nat}(h:Src b0 base w A n c xs){p:Addr}(h0:b0≤p.block) (h1:p.block<base) (v:Value):Src b0 base (w.setCell p v) A n c xs:=by
 rcases h with h | h
 ·refine .inl (h.keep fun q hq=>World.cell?_setCell_far _ _ _ _ ?_)
  omega
 exact .inr (h.setLow h1 v)
theorem Src.drew {b0 base n c:Nat}{w:World}{A:Option Addr}{xs:List Nat}(h:Src b0 base w A n c xs):Src b0 base w.drew A n c xs:=by
 rcases h with h | h
 ·exact .inl ⟨⟨h.rd.len,h.rd.cap,h.rd.big,h.rd.cell⟩,h.lim⟩
 exact .inr ⟨h.row,h.lim⟩
theorem Src.base_le {b0 base base' n c:Nat}{w:World}{A:Option Addr}{xs:List Nat}(h:Src b0 base w A n c xs) (hb:base'≤base):Src b0 base' w A n c xs:=by
 rcases h with h | h
 ·exact .inl h
 exact .inr (h.base_le hb)
theorem Hld.up {s B g k:Nat}{w W0 W:World}(h:Hld s w B g k W0 W):B≤W.heap.size:=h.2.2.1
structure Lv where
 A:Option Addr
 n:Nat
 c:Nat
structure Zv where
 s:Bool
 A:Option Addr
 n:Nat
 c:Nat
structure Rv where
 s:Bool
 A:Option Addr
 n:Nat
 c:Nat
 t:Bool
 B:Option Addr
 m:Nat
 d:Nat
def Rv.x (r:Rv):Zv:=⟨r.s,r.A,r.n,r.c⟩
def Rv.y (r:Rv):Zv:=⟨r.t,r.B,r.m,r.d⟩
def Lv.v (l:Lv):Value:=.slice l.A l.n l.c
def Zv.cs (z:Zv):List Value:=[.bool z.s,.slice z.A z.n z.c]
def Rv.cs (r:Rv):List Value:=[.bool r.s,.slice r.A r.n r.c,.bool r.t,.slice r.B r.m r.d]
structure LimR (W:World) (N:Nat→Prop) (A:Option Addr) (n c:Nat) (xs:List Nat):Prop where
 len:xs.length=n
 cap:n≤c
 big:c≤9223372036854775807
 lim:Lim 4294967296 xs
 cell:0<n→∃ad,A=some ad∧N ad.block∧∀k u,(dH xs)[k]? =some u→W.cell? (ad.add k)=some u
section
variable {W W':World}{N N':Nat→Prop}{A:Option Addr}{n c:Nat}{xs:List Nat}
theorem LimR.mono (h:LimR W N A n c xs) (hN:∀b,N b→N' b):LimR W N' A n c xs:=
 ⟨h.len,h.cap,h.big,h.lim,fun hn=>let ⟨ad,e,hb,hc⟩:=h.cell hn;⟨ad,e,hN _ hb,hc⟩⟩
theorem Bh {ad:Addr}(h:W'.heap[ad.block]? =W.heap[ad.block]?) (k:Nat):W'.cell? (ad.add k)=W.cell? (ad.add k):=World.cell?_of_block (w:=W) (by rw[eA];exact h)
theorem LimR.keep (h:LimR W N A n c xs) (hN:∀b,N b→W'.heap[b]? =W.heap[b]?):LimR W' N A n c xs:=
 ⟨h.len,h.cap,h.big,h.lim,fun hn=>let ⟨ad,e,hb,hc⟩:=h.cell hn;⟨ad,e,hb,fun k u hu=>(Bh (hN _ hb) k).trans (hc k u hu)⟩⟩
theorem LimR.u32 {B:Nat}(h:LimR W N A n c xs) (hN:∀b,N b→b<B):U32 W B A n c xs:=
 ⟨⟨by rw[eY,h.len,Nat.mul_one],h.cap,h.big,fun hn=>let ⟨ad,e,hb,hc⟩:=h.cell hn;⟨ad,e,hN _ hb,hc⟩⟩,h.lim⟩
theorem LimR.of_own {t base:Nat}(h:Own t W base A n c xs):LimR W (· ∈(Value.slice A n c).ownBlock.toList) A n c xs:=by
 have hu:=h.u32
 refine⟨hu.len,hu.cap,hu.big,hu.lim,fun hn=>?_⟩
 obtain⟨ad,e,_,hc⟩:=hu.rd.cell hn
 exact⟨ad,e,by subst e;simp[Value.ownBlock],hc⟩
theorem LimR.nil:LimR W N none 0 0 []:=⟨rfl,Nat.le_refl _,by omega,Lim.nil,fun h=>absurd h (by omega)⟩
end
theorem Own.keep {t:TypeId}{w w':World}{base n c:Nat}{A:Option Addr}{xs:List Nat}(h:Own t w base A n c xs) (hk:∀b∈(Value.slice A n c).ownBlock.toList,w'.heap[b]? =w.heap[b]?):Own t w' base A n c xs:=by
 refine⟨⟨h.row.1,?_⟩,h.lim⟩
 rcases h.row.2 with h2 | ⟨g,cap,cur,hv,hb,hh,rest⟩
 ·exact .inl h2
 exact .inr ⟨g,cap,cur,hv,hb,(hk g (by rw[hv];simp[Value.ownBlock])).trans hh,rest⟩
theorem Own.blk {t:TypeId}{w:World}{base n c:Nat}{A:Option Addr}{xs:List Nat}(h:Own t w base A n c xs):∀b∈(Value.slice A n c).ownBlock.toList,base≤b∧b<w.heap.size:=by
 intro b hb
 rcases h.row.2 with⟨h2,_⟩ | ⟨g,cap,cur,hv,hb',hh,rest⟩
 ·rw[h2]at hb
  simp[Value.ownBlock]at hb
 rw[hv]at hb
 simp[Value.ownBlock]at hb
 subst hb
 exact⟨hb',(Array.getElem?_eq_some_iff.1 hh).1⟩
section
variable {w:World}{r r':Rv}{p q:Rat}
end
section
variable {w:World}{z z':Zv}{k k':Int}
end
theorem Sz.mono {L M:Nat}{q:Rat}(h:Sz L q) (hL:L≤M):Sz M q:=⟨Nat.le_trans h.1 hL,Nat.le_trans h.2 hL⟩
def aG (xs:List Nat):List Tr:=xs.map fun(n:Nat)=>.v (.int .u32 (n:Int))
def sU (o:Bool) (xs:List Nat):Tr:=.s o 70 1 xs.length (aG xs)
theorem fF (xs:List Nat):(aG xs).length=xs.length:=by simp[aG]
theorem Pw (xs:List Nat):dU ((aG xs).map .t)=true:=by
 induction xs with
 | nil=>rfl
 | cons x xs ih=>simpa[aG,dU,iT]using ih
theorem Gv (xs:List Nat):cO ((aG xs).map .t)=true:=by
 induction xs with
 | nil=>rfl
 | cons x xs ih=>simpa[aG,cO,lone]using ih
theorem fP (xs:List Nat):NoFrL (aG xs):=by
 induction xs with
 | nil=>simp[aG,NoFrL]
 | cons x xs ih=>simpa[aG,NoFrL,kG]using ih
structure Fr4 where
 s:Bool
 x:List Nat
 t:Bool
 y:List Nat
namespace Fr4
def q (a:Fr4):Rat:=Vr a.s a.x a.t a.y
def of (q:Rat):Fr4:=⟨aB q.num,dg 4294967296 q.num.natAbs,false,dg 4294967296 q.den⟩
def ok (a:Fr4):Prop:=Lim 4294967296 a.x∧Lim 4294967296 a.y∧a.x.length≤68719476736∧a.y.length≤68719476736
end Fr4
section
variable {W:World}{N:Nat→Prop}
theorem sP {o:Bool}{xs:List Nat}{u:Value}(h:FR W N (sU o xs) u) (hl:Lim 4294967296 xs):∃A c,u=.slice A xs.length c∧LimR W N A xs.length c xs:=by
 simp only[sU,FR]at h
 obtain⟨A,c,rfl,h1,h2,h3,h4⟩:=h
 refine⟨A,c,rfl,rfl,h1,h2,hl,fun hn=>?_⟩
 rcases h4 with h4 | ⟨ad,rfl,h5,h6⟩
 ·omega
 refine⟨ad,rfl,h5,fun k u hk=>?_⟩
 simp only[dH,List.getElem?_map,Option.map_eq_some_iff]at hk
 obtain⟨m,hm,rfl⟩:=hk
 obtain⟨u,e1,e2⟩:=iH h6 (j:=k) (x:=.v (.int .u32 (m:Int))) (by simp[aG,hm])
 simp only[FR]at e2
 rw[Nat.zero_add]at e1
 rw[e1,e2]
theorem iZ {t:TypeId}{base n c:Nat}{A:Option Addr}{xs:List Nat}(h:Own t W base A n c xs):∃y:VT,y.val=.slice A n c∧OR W N (.s true t 1 xs.length (aG xs)) y∧y.ok W∧y.fp=(Value.slice A n c).ownBlock.toList:=by
 have hl:=h.len
 rcases h.row.2 with⟨h2,h3⟩ | ⟨g,cap,cur,hv,_,hg,hnc,hcm,hcs,htake⟩
 ·injection h2 with e1 e2 e3
  subst e1 e3
  subst h3
  have:xs=[]:=List.eq_nil_of_length_eq_zero hl
  subst this
  exact⟨.w (.slice none 0 0),rfl,by simp[OR,aG],by simp[VT.ok],by simp[VT.fp,Value.ownBlock]⟩
 injection hv with e1 e2 e3
 subst e1 e3
 have hor:ORL W N (aG xs) ((dH xs).map VT.w):=by
  clear hl htake h
  induction xs with
  | nil=>simp[aG,dH,ORL]
  | cons x xs ih=>simpa[aG,dH,ORL,OR]using ih
 refine⟨.s g c t 1 n ((dH xs).map .w),rfl,?_,?_,by simp[VT.fp,gU,Value.ownBlock]⟩
 ·simp only[OR]
  exact⟨trivial,hl.symm,trivial,trivial,hor⟩
 simp only[VT.ok]
 refine⟨⟨cur.toList.drop (n*1),?_,?_⟩,hnc,hcm,by simp[eY,hl],mK _⟩
 ·rw[mM,←htake,List.take_append_drop]
  simpa using hg
 rw[mM,←htake,List.take_append_drop]
 simpa using hcs
end
section
variable {f:FuncId}{args:List FV}
theorem kL {N:Nat→Prop}{w:World}{cs:List Co}{us:List Value}(hL:Loc ((aC (aN []) cs).flatMap Res.S) w w (aC (aN []) cs) [(Ch [] cs args us).on N]):cs=[]∧bU w (fun b=>b<w.heap.size∧N b) [] args us:=by
 have h:=Sh.off (hL.sh 0 rfl)
 have hc:cs=[]:=List.eq_nil_of_length_eq_zero (by have:=h.1.1;simpa[aN]using this.symm)
 subst hc
 exact⟨rfl,gI (fun _ _=>rfl) (fun b hb=>⟨hb.1.1,hb.2⟩) .refl _ _ h.2⟩
theorem Ended.mk0 {fresh:Bool}{N:Nat→Prop}{M:List Nat}{w W:World}{R:List Lt→FV→Prop}{v:Value}{r:FV}{y:List VT}(hR:R [] r) (hb:Below w.heap.size w W) (hok:VT.okL W y) (hnd:(VT.fpL y).Nodup) (hfp:∀b∈VT.fpL y,w.heap.size≤b∧b<W.heap.size)
  (hro:RO W (fun b=>fresh=false∧(b<W.heap.size∧b∉VT.fpL y)∧(N b∨w.heap.size≤b)) [] r v y):Ended fresh N M w [] [] R (.returned v) W:=by
 refine⟨v,[],[],r,y,rfl,hR,rfl,fun _ _ _ h=>by simp at h,rfl,.refl,?_⟩
 refine⟨⟨hb.os,hb.tape,hb.output,hb.size,fun k hk _=>hb.block k hk⟩,fun q hq=>?_,fun b hb=>?_,by simpa[aN,aC,dF]using hnd,fun q hq=>?_⟩
 ·simp[aN,aC]at hq
  subst hq
  exact hok
 ·have:=hfp b (by simpa[aN,aC,dF]using hb)
  exact⟨.inr this.1,this.2⟩
 simp at hq
 subst hq
 refine⟨⟨rfl,fun k o hk=>by simp[aN]at hk⟩,jT (fun _ _=>rfl) (fun b hb=>⟨hb.1,⟨⟨hb.2.1.1,?_⟩,hb.2.2.elim .inl fun h=>.inr (.inr h)⟩⟩) .refl hro⟩
 simpa[aN,aC,dF]using hb.2.1.2
theorem Gw {v:Value}(h:∀(N:Nat→Prop) (w:World) us,bU w N [] args us→(∀b,N b→b<w.heap.size)→Calls Tryd.prog f us.toArray w (fun e w'=>e=.returned v∧Below w.heap.size w w')):aI true Tryd.prog f [] args (bF (.one (tv v))):=by
 intro N w cs us hL
 obtain⟨rfl,hf⟩:=kL hL
 refine(h _ w us hf (fun b hb=>hb.1)).mono ?_
 rintro e W ⟨rfl,hb⟩
 refine .mk0 (y:=[.w v]) rfl hb (by simp[VT.okL,VT.ok]) (by simp[VT.fpL,VT.fp]) (by simp[VT.fpL,VT.fp]) ⟨.w v,rfl,rfl,?_⟩
 simp[CR,tv,OR]
end
theorem qJ {W:World}{N:Nat→Prop}{a b:FV}{us:List Value}(h:bU W N [] [a,b] us):∃u v,us=[u,v]∧bE W N [] a u∧bE W N [] b v:=by
 match us,h with
 | [u,v],h=>
  simp only[bU]at h
  exact⟨u,v,rfl,h.1,h.2.1⟩
 | [],h=>simp only[bU]at h
 | [_],h=>simp only[bU]at h;exact h.2.elim
 | _::_::_::_,h=>simp only[bU]at h;exact absurd h.2.2 (by simp)
theorem Bi {W:World}{N:Nat→Prop}{a:FV}{us:List Value}(h:bU W N [] [a] us):∃u,us=[u]∧bE W N [] a u:=by
 match us,h with
 | [u],h=>
  simp only[bU]at h
  exact⟨u,rfl,h.1⟩
 | [],h=>simp only[bU]at h
 | _::_::_,h=>simp only[bU]at h;exact absurd h.2 (by simp)
section
variable {a b:Fr4}
end
theorem iA (xs:List Nat){k:Nat}(h:k<xs.length):((aG xs).drop (k*1)).take [Tr.v (.int .u32 ((nth xs k:Nat):Int))].length=[Tr.v (.int .u32 ((nth xs k:Nat):Int))]:=by
 rw[Nat.mul_one]
 have:(aG xs)[k]? =some (Tr.v (.int .u32 ((nth xs k:Nat):Int))):=by simp[aG,bR h,h]
 rw[List.length_singleton,List.take_one]
 simp[this]
theorem aM {x:Cx}{g:Nat→FV}{ob:List (Option Ob)}(h0:x.c0.length=0) (τ:List Nat) (live:List (Nat×FV)) (os:List Ob) (hn:τ.Nodup) (h1:nO τ g live) (h2:eP τ ob τ os):Sub x g ob (cP live) (os.map some):=
 su τ (fun k hk=>by rw[h0]at hk;cases hk) live os hn h1 h2
theorem Gx {xs ys:List Nat}{k:Nat}(h:xs.take k=ys.take k) (h1:k<xs.length) (h2:k<ys.length) (he:nth xs k=nth ys k):xs.take (k+1)=ys.take (k+1):=by
 rw[List.take_add_one,List.take_add_one,h]
 rw[bR h1,bR h2]at he
 simp[List.getElem?_eq_getElem h1,List.getElem?_eq_getElem h2,he]
theorem bK (xs:List Nat):((aG xs).map AV.t).take (xs.length*1)=(aG xs).map .t:=by rw[Nat.mul_one,List.take_of_length_le (by simp[fF])]
theorem bI (xs:List Nat):(aG xs).length=xs.length*1:=by simp[fF]
theorem Px {a b:Fr4}:a=b↔(a.s=b.s∧a.t=b.t)∧a.x=b.x∧a.y=b.y:=by
 obtain⟨s,x,t,y⟩:=a
 obtain⟨s',x',t',y'⟩:=b
 simp only[Fr4.mk.injEq]
 constructor
 ·rintro⟨h1,h2,h3,h4⟩
  exact⟨⟨h1,h3⟩,h2,h4⟩
 rintro⟨⟨h1,h3⟩,h2,h4⟩
 exact⟨h1,h2,h3,h4⟩
instance:DecidableEq Fr4:=fun a b=>decidable_of_iff _ Px.symm
def Fr4.len (a:Fr4) (m:Nat):Prop:=a.x.length≤m∧a.y.length≤m
section
variable {f:FuncId}{args:List FV}
theorem jA {xs:List Nat}(h:∀(N:Nat→Prop) (w:World) us,bU w N [] args us→(∀b,N b→b<w.heap.size)→Calls Tryd.prog f us.toArray w (gZ xs w)):aI true Tryd.prog f [] args (bF (.one (.t (sU true xs)))):=by
 intro N w cs us hL
 obtain⟨rfl,hf⟩:=kL hL
 refine(h _ w us hf (fun b hb=>hb.1)).mono ?_
 rintro e W ⟨A,n,c,rfl,ho,hb⟩
 obtain⟨y1,a1,a2,a3,a4⟩:=iZ (N:=fun b=>true=false∧(b<W.heap.size∧b∉VT.fpL [])∧(N b∨w.heap.size≤b)) ho
 refine .mk0 (y:=[y1]) rfl hb (by simp only[VT.okL];exact⟨a3,trivial⟩) ?_ (fun b hb'=>?_) ?_
 ·simp only[VT.fpL,a4,List.append_nil]
  cases A <;> simp[Value.ownBlock]
 ·simp only[VT.fpL,a4,List.append_nil]at hb'
  exact ho.blk b hb'
 exact⟨y1,rfl,a1.symm,eC (fun _ _=>rfl) (fun b hb=>absurd hb.1 (by simp)) _ _ a2⟩
variable {xs ys:List Nat}
theorem eH {W:World}{N:Nat→Prop}{v:Value}(h:bE W N [] (.one (.t (sU false xs))) v) (hl:Lim 4294967296 xs) (hN:∀b,N b→b<W.heap.size):∃A c,v=.slice A xs.length c∧U32 W W.heap.size A xs.length c xs:=by
 simp only[bE,AR]at h
 obtain⟨A,c,rfl,l⟩:=sP h hl
 exact⟨A,c,rfl,l.u32 hN⟩
theorem Py (hx:Lim 4294967296 xs) (h:xs.length≤1099511627776):aI true Tryd.prog 55 [] [.one (.t (sU false xs))] (bF (.one (.t (sU true (trim xs))))):=jA fun N w us hf hN=>by
 obtain⟨u,rfl,h1⟩:=Bi hf
 obtain⟨A,c,rfl,u1⟩:=eH h1 hx hN
 exact cS A _ c xs w u1 h
theorem zG (hx:Lim 4294967296 xs) (h:xs.length≤1099511627776):aI true Tryd.prog 46 [] [.one (.t (sU false xs))] (bF (.one (.t (sU true xs)))):=jA fun N w us hf hN=>by
 obtain⟨u,rfl,h1⟩:=Bi hf
 obtain⟨A,c,rfl,u1⟩:=eH h1 hx hN
 exact jW A _ c xs w u1 h
theorem Rz (hx:Lim 4294967296 xs) (hy:Lim 4294967296 ys):aI true Tryd.prog 61 [] [.one (.t (sU false xs)),.one (.t (sU false ys))] (bF (.one (tv (.int .i64 (hG (vl 4294967296 xs) (vl 4294967296 ys)))))):=Gw fun N w us hf hN=>by
 obtain⟨u,v,rfl,h1,h2⟩:=qJ hf
 obtain⟨A,c,rfl,u1⟩:=eH h1 hx hN
 obtain⟨B,d,rfl,u2⟩:=eH h2 hy hN
 exact(kJ A B _ _ c d xs ys _ w u1 u2).mono fun e W ⟨he,k,hk⟩=>⟨he,hk▸dP (Below.refl _ _) k⟩
theorem It (hx:Lim 4294967296 xs) (hy:Lim 4294967296 ys) (h:xs.length≤1099511627776) (h':ys.length≤1099511627776):aI true Tryd.prog 52 [] [.one (.t (sU false xs)),.one (.t (sU false ys))] (bF (.one (.t (sU true (dg 4294967296 (vl 4294967296 xs+vl 4294967296 ys)))))):=jA fun N w us hf hN=>by
 obtain⟨u,v,rfl,h1,h2⟩:=qJ hf
 obtain⟨A,c,rfl,u1⟩:=eH h1 hx hN
 obtain⟨B,d,rfl,u2⟩:=eH h2 hy hN
 exact Gq A B _ _ c d xs ys w u1 u2 h h'
theorem Sa (hx:Lim 4294967296 xs) (hy:Lim 4294967296 ys) (h:xs.length≤549755813888) (h':ys.length≤549755813888):aI true Tryd.prog 45 [] [.one (.t (sU false xs)),.one (.t (sU false ys))] (bF (.one (.t (sU true (dg 4294967296 (vl 4294967296 xs*vl 4294967296 ys)))))):=jA fun N w us hf hN=>by
 obtain⟨u,v,rfl,h1,h2⟩:=qJ hf
 obtain⟨A,c,rfl,u1⟩:=eH h1 hx hN
 obtain⟨B,d,rfl,u2⟩:=eH h2 hy hN
 exact Kq A B _ _ c d xs ys w u1 u2 h h'
theorem Gy {W:World}{N:Nat→Prop}{t:Nat}{v:Value}(h:bE W N [] (.one (.t (.s false t 1 2 [sU false xs,sU false ys]))) v) (hx:Lim 4294967296 xs) (hy:Lim 4294967296 ys) (hN:∀b,N b→b<W.heap.size):∃A c,v=.slice A 2 c∧URows W W.heap.size A 2 c [xs,ys]:=by
 simp only[bE,AR,FR]at h
 obtain⟨A,c,rfl,h1,h2,_,h4⟩:=h
 rcases h4 with h4 | ⟨ad,rfl,h5,h6⟩
 ·omega
 obtain⟨u0,e0,f0⟩:=iH h6 (j:=0) rfl
 obtain⟨u1,e1,f1⟩:=iH h6 (j:=1) rfl
 obtain⟨A0,c0,rfl,l0⟩:=sP f0 hx
 obtain⟨A1,c1,rfl,l1⟩:=sP f1 hy
 rw[Nat.zero_add]at e0 e1
 refine⟨_,c,rfl,rfl,h1,h2,fun k hk=>?_⟩
 obtain⟨b,o,sp⟩:=ad
 match k,hk with
 | 0,_=>exact⟨b,o,sp,A0,_,c0,rfl,hN _ h5,e0,l0.u32 hN⟩
 | 1,_=>exact⟨b,o,sp,A1,_,c1,rfl,hN _ h5,e1,l1.u32 hN⟩
theorem Sb {t:Nat}(hx:Lim 4294967296 xs) (hy:Lim 4294967296 ys) (h:xs.length≤549755813888) (h':ys.length≤549755813888):aI true Tryd.prog 47 [] [.one (.t (.s false t 1 2 [sU false xs,sU false ys]))] (bF (.one (.t (sU true (dg 4294967296 (kK [xs,ys])))))):=jA fun N w us hf hN=>by
 obtain⟨u,rfl,h1⟩:=Bi hf
 obtain⟨A,c,rfl,u1⟩:=Gy h1 hx hy hN
 exact Kx A 2 c [xs,ys] w u1 (by omega) (fun k hk=>by match k,hk with | 0,_=>exact h | 1,_=>exact h')
theorem kM (A:Option Addr) (n c:Nat):((Value.slice A n c).ownBlock.toList).Nodup:=by cases A <;> simp[Value.ownBlock]
theorem Bj (hx:Lim 4294967296 xs) (hy:Lim 4294967296 ys) (h:xs.length≤1099511627776) (hle:vl 4294967296 ys≤vl 4294967296 xs):aI true Tryd.prog 53 [] [.one (.t (sU false xs)),.one (.t (sU false ys))] (bF (.tup [.one (.t (sU true (dg 4294967296 (vl 4294967296 xs-vl 4294967296 ys)))),.one (tv (.int .i64 0))])):=by
 intro N w cs us hL
 obtain⟨rfl,hf⟩:=kL hL
 obtain⟨u,v,rfl,h1,h2⟩:=qJ hf
 obtain⟨A,c,rfl,u1⟩:=eH h1 hx fun b hb=>hb.1
 obtain⟨B,d,rfl,u2⟩:=eH h2 hy fun b hb=>hb.1
 refine(Gr A B _ _ c d xs ys w u1 u2 h hle).mono ?_
 rintro e W ⟨A,n,c,rfl,ho,hb⟩
 obtain⟨y1,a1,a2,a3,a4⟩:=iZ (N:=fun b=>true=false∧(b<W.heap.size∧b∉VT.fpL [])∧(N b∨w.heap.size≤b)) ho
 refine .mk0 (y:=[y1,.w (.int .i64 0)]) rfl hb (by simp only[VT.okL,VT.ok];exact⟨a3,trivial,trivial⟩) ?_ (fun b hb'=>?_) ?_
 ·simp only[VT.fpL,VT.fp,a4,List.append_nil]
  exact kM A n c
 ·simp only[VT.fpL,VT.fp,a4,List.append_nil]at hb'
  exact ho.blk b hb'
 refine⟨[_,_],rfl,?_⟩
 exact⟨_,_,[y1],[.w (.int .i64 0)],rfl,rfl,⟨y1,rfl,a1.symm,eC (fun _ _=>rfl) (fun b hb=>absurd hb.1 (by simp)) _ _ a2⟩,_,_,[.w (.int .i64 0)],[],rfl,rfl,⟨_,rfl,rfl,by simp[CR,tv,OR]⟩,rfl,rfl⟩
theorem Gz (hx:Lim 4294967296 xs) (hy:Lim 4294967296 ys) (h:xs.length≤549755813888) (h':ys.length≤549755813888) (h0:vl 4294967296 ys≠0):aI true Tryd.prog 51 [] [.one (.t (sU false xs)),.one (.t (sU false ys))] (bF (.tup [.one (.t (sU true (dg 4294967296 (vl 4294967296 xs/vl 4294967296 ys)))),.one (.t (sU true (dg 4294967296 (vl 4294967296 xs%vl 4294967296 ys)))),.one (tv (.int .i64 0))])):=by
 intro N w cs us hL
 obtain⟨rfl,hf⟩:=kL hL
 obtain⟨u,v,rfl,h1,h2⟩:=qJ hf
 obtain⟨A,c,rfl,u1⟩:=eH h1 hx fun b hb=>hb.1
 obtain⟨B,d,rfl,u2⟩:=eH h2 hy fun b hb=>hb.1
 refine(rN A B _ _ c d xs ys w u1 u2 h h' h0).mono ?_
 rintro e W ⟨A1,n1,c1,A2,n2,c2,rfl,ho,ho2,hap,hb⟩
 obtain⟨y1,a1,a2,a3,a4⟩:=iZ (N:=fun b=>true=false∧(b<W.heap.size∧b∉VT.fpL [])∧(N b∨w.heap.size≤b)) ho
 obtain⟨y2,b1,b2,b3,b4⟩:=iZ (N:=fun b=>true=false∧(b<W.heap.size∧b∉VT.fpL [])∧(N b∨w.heap.size≤b)) ho2
 refine .mk0 (y:=[y1,y2,.w (.int .i64 0)]) rfl hb (by simp only[VT.okL,VT.ok];exact⟨a3,b3,trivial,trivial⟩) ?_ (fun b hb'=>?_) ?_
 ·simp only[VT.fpL,VT.fp,a4,b4,List.append_nil]
  rw[List.nodup_append]
  refine⟨kM ..,kM ..,fun x hx y hy e=>?_⟩
  subst e
  rcases A1 with _ | a
  ·simp[Value.ownBlock]at hx
  rcases A2 with _ | b
  ·simp[Value.ownBlock]at hy
  simp[Value.ownBlock]at hx hy
  exact hap a b rfl rfl (by rw[←hx,←hy])
 ·simp only[VT.fpL,VT.fp,a4,b4,List.append_nil]at hb'
  rcases List.mem_append.1 hb' with hb' | hb'
  ·exact ho.blk b hb'
  exact ho2.blk b hb'
 refine⟨[_,_,_],rfl,?_⟩
 exact⟨_,_,[y1],[y2,.w (.int .i64 0)],rfl,rfl,⟨y1,rfl,a1.symm,eC (fun _ _=>rfl) (fun b hb=>absurd hb.1 (by simp)) _ _ a2⟩,_,_,[y2],[.w (.int .i64 0)],rfl,rfl,⟨y2,rfl,b1.symm,eC (fun _ _=>rfl) (fun b hb=>absurd hb.1 (by simp)) _ _ b2⟩,_,_,[.w (.int .i64 0)],[],rfl,rfl,⟨_,rfl,rfl,by simp[CR,tv,OR]⟩,rfl,rfl⟩
end
section
variable {xs:List Nat}
theorem Bk {d:Nat}(hx:Lim 4294967296 xs) (h:xs.length≤1099511627776) (hd0:0<d) (hd:d<4294967296):aI true Tryd.prog 65 [] [.one (.t (sU false xs)),.one (tv (.int .u32 (d:Int)))] (bF (.tup [.one (.t (sU true (dg 4294967296 (vl 4294967296 xs/d)))),.one (tv (.int .u32 ((vl 4294967296 xs%d:Nat):Int))),.one (tv (.int .i64 0))])):=by
 intro N w cs us hL
 obtain⟨rfl,hf⟩:=kL hL
 obtain⟨u,v,rfl,h1,h2⟩:=qJ hf
 obtain⟨A,c,rfl,u1⟩:=eH h1 hx fun b hb=>hb.1
 obtain rfl:=aH (jQ h2)
 refine(jG A _ c d xs w u1 h hd0 hd).mono ?_
 rintro e W ⟨A,n,c,rfl,ho,hb⟩
 obtain⟨y1,a1,a2,a3,a4⟩:=iZ (N:=fun b=>true=false∧(b<W.heap.size∧b∉VT.fpL [])∧(N b∨w.heap.size≤b)) ho
 refine .mk0 (y:=[y1,.w (.int .u32 ((vl 4294967296 xs%d:Nat):Int)),.w (.int .i64 0)]) rfl hb (by simp only[VT.okL,VT.ok];exact⟨a3,trivial,trivial,trivial⟩) ?_ (fun b hb'=>?_) ?_
 ·simp only[VT.fpL,VT.fp,a4,List.append_nil]
  exact kM A n c
 ·simp only[VT.fpL,VT.fp,a4,List.append_nil]at hb'
  exact ho.blk b hb'
 refine⟨[_,_,_],rfl,?_⟩
 exact⟨_,_,[y1],[.w _,.w (.int .i64 0)],rfl,rfl,⟨y1,rfl,a1.symm,eC (fun _ _=>rfl) (fun b hb=>absurd hb.1 (by simp)) _ _ a2⟩,_,_,[.w _],[.w (.int .i64 0)],rfl,rfl,⟨_,rfl,rfl,by simp[CR,tv,OR]⟩,_,_,[.w (.int .i64 0)],[],rfl,rfl,⟨_,rfl,rfl,by simp[CR,tv,OR]⟩,rfl,rfl⟩
theorem Lb {v:Nat}(hx:Lim 4294967296 xs) (h:xs.length≤1099511627776) (hv:vl 4294967296 xs=v):aI true Tryd.prog 55 [] [.one (.t (sU false xs))] (bF (.one (.t (sU true (dg 4294967296 v))))):=by
 have e:=cT (B:=4294967296) (by omega) hx
 rw[←hv,e]
 exact Py hx h
theorem Pz {u d:Nat}(h:(dg 4294967296 u).length≤1099511627776) (hd0:0<d) (hd:d<4294967296):aI true Tryd.prog 65 [] [.one (.t (sU false (dg 4294967296 u))),.one (tv (.int .u32 (d:Int)))] (bF (.tup [.one (.t (sU true (dg 4294967296 (u/d)))),.one (tv (.int .u32 ((u%d:Nat):Int))),.one (tv (.int .i64 0))])):=by
 have e:=bC (B:=4294967296) (by omega) u
 have h2:=Bk (xs:=dg 4294967296 u) (d:=d) (aE (by omega) _) h hd0 hd
 rw[e]at h2
 exact h2
end
def hv:List Nat→List Nat
 | []=>[]
 | x::xs=>x%65536::x/65536::hv xs
def lb:List Nat→List Nat
 | []=>[]
 | [a]=>[a]
 | a::b::l=>(a+65536*b)::lb l
theorem tS:∀(a b:List Nat),hv (a++b)=hv a++hv b
 | [],_=>rfl
 | x::xs,b=>by simp only[List.cons_append,hv,tS xs b]
theorem kN:∀(a:List Nat),(hv a).length=2*a.length
 | []=>rfl
 | x::xs=>by simp only[hv,List.length_cons,kN xs];omega
theorem Dw:∀{a:List Nat},Lim 4294967296 a→Lim 65536 (hv a)
 | [],_=>Lim.nil
 | x::xs,h=>Lim.cons (Nat.mod_lt _ (by omega)) (Lim.cons (by have:=h.head;omega) (Dw h.tail))
theorem Iu:∀(a:List Nat),vl 65536 (hv a)=vl 4294967296 a
 | []=>rfl
 | x::xs=>by
  simp only[hv,dL,Iu xs]
  have:=Nat.mod_add_div x 65536
  omega
theorem Iv {a:List Nat}(h:Lim 4294967296 a):trim (hv a)=dg 65536 (vl 4294967296 a):=by rw[←Iu,cT (by omega) (Dw h)]
theorem zH {a:List Nat}{k:Nat}(h:k<a.length):hv (a.take (k+1))=hv (a.take k)++[nth a k%65536,nth a k/65536]:=by
 rw[jC h,tS]
 rfl
theorem Iw:∀(a:List Nat),vl 4294967296 (lb a)=vl 65536 a
 | []=>rfl
 | [a]=>by simp[lb,lF]
 | a::b::l=>by
  simp only[lb,dL,Iw l]
  omega
theorem Dx:∀{a:List Nat},Lim 65536 a→Lim 4294967296 (lb a)
 | [],_=>Lim.nil
 | [a],h=>Lim.cons (by have:=h.head;omega) Lim.nil
 | a::b::l,h=>Lim.cons (by have:=h.head;have:=h.tail.head;omega) (Dx h.tail.tail)
theorem eQ:∀(a:List Nat),(lb a).length=(a.length+1)/2
 | []=>rfl
 | [a]=>by simp[lb]
 | a::b::l=>by simp only[lb,List.length_cons,eQ l];omega
theorem Qa {a:List Nat}(h:lb a=[]):a=[]:=by
 rcases a with _ | ⟨x,_ | ⟨y,l⟩⟩
 ·rfl
 ·simp[lb]at h
 simp[lb]at h
theorem zI:∀{a:List Nat},trim a=a→trim (lb a)=lb a
 | [],_=>rfl
 | [a],h=>h
 | a::b::l,h=>by
  have hl:trim l=l:=by
   rw[cM]at h
   split at h
   ·cases h
   injection h with _ h
   rw[cM]at h
   split at h
   ·cases h
   injection h
  have ih:=zI hl
  simp only[lb]
  rw[cM,ih]
  split
  ·rename_i hc
   have h0:=Qa hc.1
   subst h0
   rw[cM,cM,Ez]at h
   have hb:b=0:=by omega
   have ha:a=0:=by omega
   subst hb ha
   simp at h
  rfl
theorem pD (v:Nat):lb (dg 65536 v)=dg 4294967296 v:=by
 have h:=zI (lH (B:=65536) (by omega) v)
 rw[←h,←cT (B:=4294967296) (by omega) (Dx (aE (by omega) v)),Iw,bC (by omega)]
theorem pE:∀{l:List Nat}{k:Nat},2*k<l.length→lb (l.take (2*(k+1)))=lb (l.take (2*k))++[nth l (2*k)+65536*nth l (2*k+1)]
 | [],_,h=>by simp at h
 | [a],0,_=>by simp[lb,nth]
 | [a],k+1,h=>by simp at h
 | a::b::l,0,_=>by simp[lb,nth]
 | a::b::l,k+1,h=>by
  have ih:=pE (l:=l) (k:=k) (by simp at h;omega)
  have e1:2*(k+1+1)=2*(k+1)+1+1:=by omega
  have e2:2*(k+1)=2*k+1+1:=by omega
  rw[e1,List.take_succ_cons,List.take_succ_cons]
  simp only[lb]
  rw[ih,e2,List.take_succ_cons,List.take_succ_cons]
  simp only[lb,List.cons_append]
  simp[nth]
theorem cL {v L:Nat}(h:(dg 4294967296 v).length≤L):(dg 65536 v).length≤2*L:=by
 have h1:=lZ (B:=4294967296) (by omega) (n:=v)
 refine cD (by omega) (Nat.lt_of_lt_of_le h1 ?_)
 rw[Nat.pow_mul]
 exact Nat.pow_le_pow_right (by omega) h
theorem wH {X Y os:List Nat}{k cr:Nat}(hl:os.length=k) (h:vl 65536 os+65536^k*cr=vl 65536 (X.take k)+vl 65536 (Y.take k)):
  vl 65536 (os++[(nth X k+nth Y k+cr)%65536])+65536^(k+1)*((nth X k+nth Y k+cr)/65536)=vl 65536 (X.take (k+1))+vl 65536 (Y.take (k+1)):=by
 rw[fS,aS,aS,hl,Nat.pow_succ,Nat.mul_assoc]
 have h2:=Nat.mod_add_div (nth X k+nth Y k+cr) 65536
 have h3:65536^k*(nth X k+nth Y k+cr)=65536^k*((nth X k+nth Y k+cr)%65536)+65536^k*(65536*((nth X k+nth Y k+cr)/65536)):=by rw[←Nat.mul_add,h2]
 rw[Nat.mul_add,Nat.mul_add]at h3
 omega
theorem wI {X Y os:List Nat}{k br br' d:Nat}(hl:os.length=k) (h:vl 65536 os+vl 65536 (Y.take k)=vl 65536 (X.take k)+65536^k*br) (hd:d+nth Y k+br=nth X k+65536*br'):
  vl 65536 (os++[d])+vl 65536 (Y.take (k+1))=vl 65536 (X.take (k+1))+65536^(k+1)*br':=by
 rw[fS,aS,aS,hl,Nat.pow_succ,Nat.mul_assoc]
 have h3:65536^k*(d+nth Y k+br)=65536^k*(nth X k+65536*br'):=by rw[hd]
 rw[Nat.mul_add,Nat.mul_add,Nat.mul_add]at h3
 omega
theorem Qb {a b:Nat}(h:¬((a:Int)-(b:Int)).sign<0):b≤a:=by
 rcases Nat.lt_or_ge a b with h1 | h1
 ·exact absurd (by rw[Int.sign_eq_neg_one_of_neg (by omega)];omega) h
 exact h1
theorem Qc {a b:Nat}(h:((a:Int)-(b:Int)).sign<0):a<b:=by
 rcases Nat.lt_or_ge a b with h1 | h1
 ·exact h1
 exact absurd (Int.sign_neg_iff.1 h) (by omega)
theorem uG {X Y:List Nat}{k:Nat}(hX:Lim 65536 X) (hk:∀j,k+1≤j→nth X j=nth Y j) (h:nth X k<nth Y k):vl 65536 X<vl 65536 Y:=by
 have hS:∀m,vl 65536 (X.take (k+1+m))+vl 65536 (Y.take (k+1))=vl 65536 (Y.take (k+1+m))+vl 65536 (X.take (k+1)):=by
  intro m
  induction m with
  | zero=>exact Nat.add_comm _ _
  | succ m ih=>
   rw[←Nat.add_assoc,aS 65536 X (k+1+m),aS 65536 Y (k+1+m),hk (k+1+m) (by omega)]
   omega
 have h1:=hS (X.length+Y.length)
 rw[aY 65536 (l:=X) (k:=k+1+(X.length+Y.length)) (by omega),aY 65536 (l:=Y) (k:=k+1+(X.length+Y.length)) (by omega)]at h1
 have h2:vl 65536 (X.take (k+1))<vl 65536 (Y.take (k+1)):=by
  rw[aS,aS]
  have h3:=cX (hX.take k)
  have h4:65536^(X.take k).length≤65536^k:=Nat.pow_le_pow_right (by omega) (by rw[List.length_take];omega)
  have h5:65536^k*(nth X k+1)≤65536^k*nth Y k:=Nat.mul_le_mul_left _ h
  rw[Nat.mul_add]at h5
  omega
 omega
theorem Dy {X Y:List Nat}(h:∀j,nth X j=nth Y j):vl 65536 X=vl 65536 Y:=by
 have hS:∀m,vl 65536 (X.take m)=vl 65536 (Y.take m):=by
  intro m
  induction m with
  | zero=>rfl
  | succ m ih=>rw[aS,aS,ih,h]
 have h1:=hS (X.length+Y.length)
 rwa[aY 65536 (l:=X) (k:=X.length+Y.length) (by omega),aY 65536 (l:=Y) (k:=X.length+Y.length) (by omega)]at h1
def cJ (xs:List Nat):List Tr:=xs.map fun(n:Nat)=>.v (.int .i64 (n:Int))
def sI (o:Bool) (xs:List Nat):Tr:=.s o 3 1 xs.length (cJ xs)
theorem eI (xs:List Nat):(cJ xs).length=xs.length:=by simp[cJ]
theorem dD (xs:List Nat){k:Nat}(h:k<xs.length):((cJ xs).drop (k*1)).take [Tr.v (.int .i64 ((nth xs k:Nat):Int))].length=[Tr.v (.int .i64 ((nth xs k:Nat):Int))]:=by
 rw[Nat.mul_one]
 have:(cJ xs)[k]? =some (Tr.v (.int .i64 ((nth xs k:Nat):Int))):=by simp[cJ,bR h,h]
 rw[List.length_singleton,List.take_one]
 simp[this]
theorem eJ (xs ys:List Nat):(cJ xs).map AV.t++(cJ ys).map .t=(cJ (xs++ys)).map .t:=by simp[cJ]
theorem wJ (xs ys:List Nat):(aG xs).map AV.t++(aG ys).map .t=(aG (xs++ys)).map .t:=by simp[aG]
theorem Dz (xs:List Nat) (k:Nat):(cJ xs).take (k*1)=cJ (xs.take k):=by simp[cJ,List.map_take]
theorem Ea {xs:List Nat}{m:Nat}(h:m≤xs.length):FV.one (.t (.s false 3 1 m ((cJ xs).take (m*1))))=.one (.t (sI false (xs.take m))):=by
 rw[Dz]
 unfold sI
 rw[List.length_take,Nat.min_eq_left h]
theorem Qd (xs:List Nat):dU ((cJ xs).map .t)=true:=by
 induction xs with
 | nil=>rfl
 | cons x xs ih=>simpa[cJ,dU,iT]using ih
theorem Ha (xs:List Nat):cO ((cJ xs).map .t)=true:=by
 induction xs with
 | nil=>rfl
 | cons x xs ih=>simpa[cJ,cO,lone]using ih
theorem fH (a b:Nat):Int.tmod (a:Int) (b:Int)=((a%b:Nat):Int):=by
 rw[Int.tmod_eq_emod_of_nonneg (by omega)]
 rfl
theorem dE (a b:Nat):Int.tdiv (a:Int) (b:Int)=((a/b:Nat):Int):=by
 rw[Int.tdiv_eq_ediv_of_nonneg (by omega)]
 rfl
theorem dX {k:IntKind}{a:Nat}(b:Nat) (hb:b≠0) (h:eB k (a:Int)):(b:Int)≠0∧eB k (Int.tdiv (a:Int) (b:Int)):=by
 refine⟨by omega,?_⟩
 rw[dE]
 have:=Nat.div_le_self a b
 generalize a/b=c at this⊢
 cases k <;> simp only[eB]at h⊢ <;> omega
section
variable {x:Cx}{g:Nat→FV}{ob:List (Option Ob)}
theorem pO {i k n:Nat}{zs zs':List Nat}(hi:Nat.blt i x.n=true) (hg:g i=.one (.sl k 0 n)) (ho:bH ob k=some ⟨3,1,(cJ zs).map .t⟩) (hn:n=zs.length) (he:zs=zs'):Sub x g ob (aP g i (.one (.t (sI false zs')))) (ob.set k none):=by
 subst he
 have:=fz hi hg ho (by rw[eI,hn,Nat.mul_one])
 rw[hn]at this
 exact this
theorem Vs {i k n:Nat}{zs zs':List Nat}(hi:Nat.blt i x.n=true) (hg:g i=.one (.sl k 0 n)) (ho:bH ob k=some ⟨70,1,(aG zs).map .t⟩) (hn:n=zs.length) (he:zs=zs'):Sub x g ob (aP g i (.one (.t (sU false zs')))) (ob.set k none):=by
 subst he
 have:=fz hi hg ho (by rw[fF,hn,Nat.mul_one])
 rw[hn]at this
 exact this
theorem iB {τ:List Nat}{a:Option Ob}{xs ys:List Nat}{l:List AV}(h1:a=some ⟨3,1,l⟩) (h:l=(cJ ys).map .t) (he:ys=xs):tD τ a ⟨3,1,(cJ xs).map .t⟩:=cC (by rw[h1,h,he])
theorem Eb {τ:List Nat}{a:Option Ob}{xs ys:List Nat}{l:List AV}(h1:a=some ⟨70,1,l⟩) (h:l=(aG ys).map .t) (he:ys=xs):tD τ a ⟨70,1,(aG xs).map .t⟩:=cC (by rw[h1,h,he])
end
section
variable {l:List Nat}{k N:Nat}{z:Int}{xs:List Nat}{neg:Bool}
theorem rQ (hr:cA neg xs=false):hJ neg xs=0:=by simp[hJ,hr]
theorem iC (h:xs.length=0):cA neg xs= !neg:=by
 rw[List.length_eq_zero_iff]at h
 subst h
 simp[cA]
theorem mV {n:Nat}(hn:xs.length=n) (h:0<n):cA neg xs=decide (((nth xs (n-1):Nat):Int)≠0):=by
 subst hn
 rcases xs with _ | ⟨x,l⟩
 ·simp at h
 simp only[cA,List.isEmpty_cons,Bool.false_and,Bool.not_false,Bool.true_and,Bool.false_or]
 by_cases h0:nth (x::l) ((x::l).length-1)=0
 ·rw[h0];rfl
 rw[bne_iff_ne.2 h0,decide_eq_true (by omega)]
theorem zJ (k:Int):aX (!(aB k)) k.natAbs=-k:=by
 unfold aX aB
 by_cases h:k<0 <;> simp[h] <;> omega
theorem zK {xs ys:List Nat}(hx:Lim 4294967296 xs) (hy:Lim 4294967296 ys):(dg 4294967296 (vl 4294967296 xs+vl 4294967296 ys)).length≤xs.length+ys.length+1:=by
 refine cD (by omega) ?_
 have h1:=cX hx
 have h2:=cX hy
 have h3:4294967296^xs.length≤4294967296^(xs.length+ys.length):=Nat.pow_le_pow_right (by omega) (by omega)
 have h4:4294967296^ys.length≤4294967296^(xs.length+ys.length):=Nat.pow_le_pow_right (by omega) (by omega)
 rw[Nat.pow_succ]
 omega
theorem zL {xs ys:List Nat}(hx:Lim 4294967296 xs):(dg 4294967296 (vl 4294967296 xs-vl 4294967296 ys)).length≤xs.length:=cD (by omega) (Nat.lt_of_le_of_lt (Nat.sub_le _ _) (cX hx))
theorem aV (k:Int):vl 4294967296 (dg 4294967296 k.natAbs)=k.natAbs:=bC (by omega) _
theorem jB {a b:Nat}(h:a≤b):(dg 4294967296 a).length≤(dg 4294967296 b).length:=bX (by omega) h
theorem mW (k:Int):(dg 4294967296 (-(k)).natAbs).length=(dg 4294967296 k.natAbs).length:=by rw[Int.natAbs_neg]
theorem Hb {n:Int}(h1:-9223372036854775808≤n) (h2:n≤9223372036854775807):-4294967295≤Int.tmod n 4294967296∧Int.tmod n 4294967296≤4294967295∧-2147483648≤Int.tdiv n 4294967296∧Int.tdiv n 4294967296≤2147483648∧(Int.tmod n 4294967296).natAbs+4294967296*(Int.tdiv n 4294967296).natAbs=n.natAbs∧True:=by
 obtain⟨m,hm⟩:∃m:Nat,n.natAbs=m:=⟨_,rfl⟩
 rw[hm]
 rcases(show n=m∨n=-(m:Int) by omega)with h | h
 ·subst h
  have e1:Int.tmod (m:Int) 4294967296=((m%4294967296:Nat):Int):=by rw[Int.tmod_eq_emod_of_nonneg (by omega)];omega
  have e2:Int.tdiv (m:Int) 4294967296=((m/4294967296:Nat):Int):=by rw[Int.tdiv_eq_ediv_of_nonneg (by omega)];omega
  rw[e1,e2]
  exact⟨by omega,by omega,by omega,by omega,by rw[Int.natAbs_natCast,Int.natAbs_natCast];omega,trivial⟩
 subst h
 have e1:Int.tmod (-(m:Int)) 4294967296=-((m%4294967296:Nat):Int):=by rw[Int.neg_tmod,Int.tmod_eq_emod_of_nonneg (by omega)];omega
 have e2:Int.tdiv (-(m:Int)) 4294967296=-((m/4294967296:Nat):Int):=by rw[Int.neg_tdiv,Int.tdiv_eq_ediv_of_nonneg (by omega)];omega
 rw[e1,e2]
 exact⟨by omega,by omega,by omega,by omega,by rw[Int.natAbs_neg,Int.natAbs_neg,Int.natAbs_natCast,Int.natAbs_natCast];omega,trivial⟩
theorem Qe {n:Int}{a b:Nat}(h:a+4294967296*b=n.natAbs):aX (decide (n<0)) (vl 4294967296 [a,b])=n:=by
 have e:vl 4294967296 [a,b]=n.natAbs:=by simp[vl];omega
 rw[e]
 exact wF n
theorem tT {k k':Int}{s:Bool}(h:s=aB k) (h':aB k=aB k'):aX s (k.natAbs+k'.natAbs)=k+k':=by
 subst h
 unfold aB at*
 unfold aX
 by_cases h1:k<0 <;> by_cases h2:k'<0 <;> simp[h1,h2]at h'⊢ <;> omega
theorem zM {k k':Int}{s:Bool}(h:s=aB k) (h':aB k≠aB k') (hl:¬k.natAbs<k'.natAbs):aX s (k.natAbs-k'.natAbs)=k+k':=by
 subst h
 unfold aB at*
 unfold aX
 by_cases h1:k<0 <;> by_cases h2:k'<0 <;> simp[h1,h2]at h'⊢ <;> omega
theorem zN {k k':Int}{s:Bool}(h:s=aB k') (h':aB k≠aB k') (hl:k.natAbs<k'.natAbs):aX s (k'.natAbs-k.natAbs)=k+k':=by
 subst h
 unfold aB at*
 unfold aX
 by_cases h1:k<0 <;> by_cases h2:k'<0 <;> simp[h1,h2]at h'⊢ <;> omega
theorem Bl {X os:List Nat}{k q:Nat}{a:Nat}(hk:0<k) (hkx:k≤X.length) (hos:os.length=X.length){v r:Nat}(h:vl 65536 (X.drop k)=v*vl 65536 (os.drop k)+r) (ha:a=nth X (k-1)) (hq:q=(a+65536*r)/v):
  vl 65536 (X.drop (k-1))=v*vl 65536 ((os.set (k-1) q).drop (k-1))+(a+65536*r-q*v):=by
 obtain⟨j,rfl⟩:∃j,k=j+1:=⟨k-1,by omega⟩
 simp only[Nat.add_sub_cancel]at*
 have e1:X.drop j=nth X j::X.drop (j+1):=by rw[List.drop_eq_getElem_cons (by omega),bR (by omega)]
 have e2:(os.set j q).drop j=q::os.drop (j+1):=by
  rw[List.drop_eq_getElem_cons (by rw[List.length_set];omega),List.getElem_set_self,List.drop_set_of_lt (by omega)]
 have h2:q*v≤a+65536*r:=by rw[hq];exact Nat.div_mul_le_self _ _
 rw[e1,e2,dL,dL,h,Nat.mul_add,Nat.mul_add,Nat.mul_comm v q,Nat.mul_left_comm v 65536,←ha]
 omega
theorem oF {xs ys:List Nat}(hx:Lim 65536 xs) (hy:Lim 65536 ys):(dg 65536 (vl 65536 xs*vl 65536 ys)).length≤xs.length+ys.length:=by
 refine cD (by omega) ?_
 rw[Nat.pow_add]
 exact Nat.mul_lt_mul'' (cX hx) (cX hy)
theorem Hc {u v n m:Nat}(hn:(dg 65536 u).length=n) (hm:(dg 65536 v).length=m) (h:n≠m):decide ((n:Int)<(m:Int))=decide (u<v):=by
 have e1:=bC (B:=65536) (by omega) u
 have e2:=bC (B:=65536) (by omega) v
 rcases Nat.lt_or_gt_of_ne h with h1 | h1
 ·have h2:=eM (B:=65536) (a:=dg 65536 u) (b:=dg 65536 v) (by omega) (aE (by omega) u) (lH (by omega) v) (by omega)
  rw[decide_eq_true (by omega),decide_eq_true (by omega)]
 have h2:=eM (B:=65536) (a:=dg 65536 v) (b:=dg 65536 u) (by omega) (aE (by omega) v) (lH (by omega) u) (by omega)
 rw[decide_eq_false (by omega),decide_eq_false (by omega)]
theorem Lc {u v k:Nat}(hag:∀j,k+1≤j→nth (dg 65536 u) j=nth (dg 65536 v) j) (h:nth (dg 65536 u) k≠nth (dg 65536 v) k):decide (((nth (dg 65536 u) k:Nat):Int)<((nth (dg 65536 v) k:Nat):Int))=decide (u<v):=by
 have e1:=bC (B:=65536) (by omega) u
 have e2:=bC (B:=65536) (by omega) v
 rcases Nat.lt_or_gt_of_ne h with h1 | h1
 ·have h2:=uG (aE (by omega) u) hag h1
  rw[decide_eq_true (by omega),decide_eq_true (by omega)]
 have h2:=uG (aE (by omega) v) (fun j hj=>(hag j hj).symm) h1
 rw[decide_eq_false (by omega),decide_eq_false (by omega)]
theorem kX {X Y os:List Nat}{n k br br' d:Nat}(hl:os.length=k) (h:vl 65536 os+n*vl 65536 (Y.take k)=vl 65536 (X.take k)+65536^k*br) (hd:d+n*nth Y k+br=nth X k+65536*br'):
  vl 65536 (os++[d])+n*vl 65536 (Y.take (k+1))=vl 65536 (X.take (k+1))+65536^(k+1)*br':=by
 rw[fS,aS,aS,hl,Nat.pow_succ,Nat.mul_assoc,Nat.mul_add,Nat.mul_left_comm n]
 have h3:65536^k*(d+n*nth Y k+br)=65536^k*(nth X k+65536*br'):=by rw[hd]
 rw[Nat.mul_add,Nat.mul_add,Nat.mul_add]at h3
 omega
theorem Hd {u v n k br ln:Nat}{os:List Nat}(hx:(dg 65536 u).length=ln) (hk:os.length=ln) (hol:Lim 65536 os) (h:vl 65536 os+n*vl 65536 ((dg 65536 v).take k)=vl 65536 ((dg 65536 u).take k)+65536^k*br) (hnv:n*v≤u) (hkk:k=ln:=by omega):vl 65536 os=u-n*v:=by
 have h1:=cX hol
 rw[aY 65536 (l:=dg 65536 u) (by omega),bC (by omega)]at h
 have h2:n*vl 65536 ((dg 65536 v).take k)=n*v:=by
  rcases Nat.eq_zero_or_pos n with h0 | h0
  ·rw[h0,Nat.zero_mul,Nat.zero_mul]
  have h3:v≤u:=Nat.le_trans (Nat.le_mul_of_pos_left v h0) hnv
  have h4:=bX (B:=65536) (by omega) h3
  rw[aY 65536 (l:=dg 65536 v) (by omega),bC (by omega)]
 rw[h2]at h
 rcases Nat.eq_zero_or_pos br with h0 | h0
 ·rw[h0,Nat.mul_zero]at h
  omega
 have h5:65536^k*1≤65536^k*br:=Nat.mul_le_mul_left _ h0
 rw[hk,←hkk]at h1
 omega
theorem Ec {u v lo hi:Nat}(h1:lo*v≤u) (h2:u<hi*v) (h:hi=lo+1):u/v=lo:=by
 subst h
 have hv:0<v:=by
  rcases Nat.eq_zero_or_pos v with h0 | h0
  ·subst h0;simp at h2
  exact h0
 exact(Nat.div_eq_iff hv).2 (by rw[Nat.add_mul]at h2;omega)
theorem oG {a r:Nat}(ha:a<65536):trim ([a]++dg 65536 r)=dg 65536 (a+65536*r):=
 oK (by omega) (Lim.cons ha (aE (by omega) r)) (by show a+65536*vl 65536 (dg 65536 r)=_;rw[bC (by omega)])
theorem Hf {a r v:Nat}(ha:a<65536) (hr:r<v):(dg 65536 (a+65536*r)).length≤(dg 65536 v).length+1:=by
 rw[←oG ha]
 refine Nat.le_trans (bP _) ?_
 have:=bX (B:=65536) (by omega) (Nat.le_of_lt hr)
 simp only[List.length_append,List.length_cons,List.length_nil]
 omega
theorem wK {l:List Nat}{j v:Nat}(h:j<l.length):nth (l.set j v) j=v:=by simp[nth,h]
theorem Ed {u v r q:Nat}(h:u=v*q+r) (hr:r<v):q=u/v∧r=u%v:=by
 subst h
 rw[Nat.mul_add_div (by omega),Nat.div_eq_of_lt hr,Nat.mul_add_mod,Nat.mod_eq_of_lt hr]
 exact⟨rfl,rfl⟩
theorem Ld {x y:Int}(hx:x.sign≠0) (h:x.sign≠y.sign) (hy:y≠0):(x<0∧0<y)∨(0<x∧y<0):=by
 rcases Int.lt_trichotomy x 0 with h1 | h1 | h1
 ·rcases Int.lt_trichotomy y 0 with h2 | h2 | h2
  ·rw[Int.sign_eq_neg_one_of_neg h1,Int.sign_eq_neg_one_of_neg h2]at h;exact absurd rfl h
  ·exact absurd h2 hy
  exact .inl ⟨h1,h2⟩
 ·rw[h1]at hx;exact absurd rfl hx
 rcases Int.lt_trichotomy y 0 with h2 | h2 | h2
 ·exact .inr ⟨h1,h2⟩
 ·exact absurd h2 hy
 rw[Int.sign_eq_one_of_pos h1,Int.sign_eq_one_of_pos h2]at h;exact absurd rfl h
theorem Le {x y:Int}(h:x.sign=0∨x.sign=y.sign) (hy:y≠0):x=0∨(x<0∧y<0)∨(0<x∧0<y):=by
 rcases Int.lt_trichotomy x 0 with h1 | h1 | h1
 ·rw[Int.sign_eq_neg_one_of_neg h1]at h
  rcases Int.lt_trichotomy y 0 with h2 | h2 | h2
  ·exact .inr (.inl ⟨h1,h2⟩)
  ·exact absurd h2 hy
  rw[Int.sign_eq_one_of_pos h2]at h;omega
 ·exact .inl h1
 rw[Int.sign_eq_one_of_pos h1]at h
 rcases Int.lt_trichotomy y 0 with h2 | h2 | h2
 ·rw[Int.sign_eq_neg_one_of_neg h2]at h;omega
 ·exact absurd h2 hy
 exact .inr (.inr ⟨h1,h2⟩)
theorem Ix {a b:Int}(h0:b≠0):aX (aB a) (a.natAbs%b.natAbs)+b*aX (aB a != aB b) (a.natAbs/b.natAbs)=a∧(aX (aB a) (a.natAbs%b.natAbs)).natAbs<b.natAbs:=by
 have e:=Nat.div_add_mod a.natAbs b.natAbs
 have l:=Nat.mod_lt a.natAbs (show 0<b.natAbs by omega)
 refine⟨?_,by rw[eW];exact l⟩
 generalize a.natAbs/b.natAbs=q at*
 generalize a.natAbs%b.natAbs=r at*
 have e2:(b.natAbs:Int)*q+r=a.natAbs:=by exact_mod_cast e
 by_cases hb:b<0 <;> by_cases ha:a<0
 ·rw[show(b.natAbs:Int)=-b by omega,show(a.natAbs:Int)=-a by omega,Int.neg_mul]at e2
  simp[aX,aB,hb,ha];omega
 ·rw[show(b.natAbs:Int)=-b by omega,show(a.natAbs:Int)=a by omega,Int.neg_mul]at e2
  simp[aX,aB,hb,ha,Int.mul_neg];omega
 ·rw[show(b.natAbs:Int)=b by omega,show(a.natAbs:Int)=-a by omega]at e2
  simp[aX,aB,hb,ha,Int.mul_neg];omega
 rw[show(b.natAbs:Int)=b by omega,show(a.natAbs:Int)=a by omega]at e2
 simp[aX,aB,hb,ha];omega
theorem Lg {a b r q:Int}(h0:b≠0) (hr:r=aX (aB a) (a.natAbs%b.natAbs)) (hq:q=aX (aB a != aB b) (a.natAbs/b.natAbs)) (h1:r.sign≠0) (h2:r.sign≠b.sign):q-1=a.fdiv b∧r+b=a.fmod b:=by
 obtain⟨h3,h4⟩:=Ix (a:=a) h0
 rw[←hr]at h3 h4
 rw[←hq]at h3
 have h5:=Ld h1 h2 h0
 have h6:=tR (a:=a) (b:=b) (q:=q-1) (r:=r+b) h0 (by rw[Int.mul_sub,Int.mul_one];omega) (by omega) (by omega)
 exact⟨h6.1.symm,h6.2.symm⟩
theorem zO {a b r q:Int}(h0:b≠0) (hr:r=aX (aB a) (a.natAbs%b.natAbs)) (hq:q=aX (aB a != aB b) (a.natAbs/b.natAbs)) (h:r.sign=0∨r.sign=b.sign):q=a.fdiv b∧r=a.fmod b:=by
 obtain⟨h3,h4⟩:=Ix (a:=a) h0
 rw[←hr]at h3 h4
 rw[←hq]at h3
 have h5:=Le h h0
 have h6:=tR (a:=a) (b:=b) (q:=q) (r:=r) h0 h3 (by omega) (by omega)
 exact⟨h6.1.symm,h6.2.symm⟩
theorem xN {k:Int}(h:(dg 4294967296 k.natAbs).length=0):k.natAbs=0:=(dA (by omega)).1 (List.length_eq_zero_iff.1 h)
theorem Ee {k:Int}(h:(dg 4294967296 k.natAbs).length≠0):k≠0:=by
 intro h0
 subst h0
 exact h (by rw[show Int.natAbs 0=0 from rfl,fT];rfl)
def fQ (l:List Nat) (k N:Nat):List Nat:=lb (l.take k)++List.replicate (N-(k+1)/2) 0
theorem Hg:fQ l 0 N=List.replicate N 0:=by simp[fQ,lb]
theorem Lh (hN:N=(l.length+1)/2) (h:l.length≤k):fQ l k N=lb l:=by
 unfold fQ
 rw[List.take_of_length_le h,show N-(k+1)/2=0 by omega]
 simp
theorem Li (hN:N=(l.length+1)/2) (hk:k≤l.length):(fQ l k N).length=N:=by
 unfold fQ
 rw[List.length_append,List.length_replicate,eQ,List.length_take,Nat.min_eq_left hk]
 omega
theorem pF:∀{l:List Nat}{j:Nat},2*j<l.length→lb (l.take (2*j+1))=lb (l.take (2*j))++[nth l (2*j)]
 | [],_,h=>by simp at h
 | [a],0,_=>by simp[lb,nth]
 | [a],j+1,h=>by simp at h
 | a::b::l,0,_=>by simp[lb,nth]
 | a::b::l,j+1,h=>by
  have ih:=pF (l:=l) (j:=j) (by simp at h;omega)
  have e2:2*(j+1)=2*j+1+1:=by omega
  rw[e2,List.take_succ_cons,List.take_succ_cons,List.take_succ_cons,List.take_succ_cons]
  simp only[lb,List.cons_append]
  rw[ih]
  simp[nth]
theorem zP {α:Type}(A R:List α) (x y:α){j:Nat}(h:A.length=j):(A++x::R).set j y=A++y::R:=by
 subst h
 rw[List.set_append_right _ _ (Nat.le_refl _),Nat.sub_self]
 rfl
theorem Lj (A R:List Nat) (x:Nat){j:Nat}(h:A.length=j):nth (A++x::R) j=x:=by
 subst h
 simp[nth]
theorem Hh (hN:N=(l.length+1)/2) (hk:k<l.length) (he:k%2=0):(fQ l k N).set (k/2) (nth l k)=fQ l (k+1) N:=by
 obtain⟨j,rfl⟩:∃j,k=2*j:=⟨k/2,by omega⟩
 have hA:(lb (l.take (2*j))).length=j:=by rw[eQ,List.length_take,Nat.min_eq_left (by omega)];omega
 unfold fQ
 rw[show 2*j/2=j by omega,show N-(2*j+1)/2=(N-(2*j+1+1)/2)+1 by omega,List.replicate_succ,zP _ _ _ _ hA,pF hk,List.append_assoc]
 rfl
theorem pP (hN:N=(l.length+1)/2) (hk:k<l.length) (ho:k%2=1):nth (fQ l k N) (k/2)=nth l (k-1):=by
 obtain⟨j,rfl⟩:∃j,k=2*j+1:=⟨k/2,by omega⟩
 have hA:(lb (l.take (2*j))).length=j:=by rw[eQ,List.length_take,Nat.min_eq_left (by omega)];omega
 unfold fQ
 rw[show(2*j+1)/2=j by omega,pF (by omega),List.append_assoc]
 exact Lj _ _ _ hA
theorem Lk (hN:N=(l.length+1)/2) (hk:k<l.length) (ho:k%2=1):(fQ l k N).set (k/2) (nth (fQ l k N) (k/2)+65536*nth l k)=fQ l (k+1) N:=by
 rw[pP hN hk ho]
 obtain⟨j,rfl⟩:∃j,k=2*j+1:=⟨k/2,by omega⟩
 have hA:(lb (l.take (2*j))).length=j:=by rw[eQ,List.length_take,Nat.min_eq_left (by omega)];omega
 unfold fQ
 rw[show(2*j+1)/2=j by omega,pF (by omega),List.append_assoc,show 2*j+1+1=2*(j+1) by omega,pE (by omega),List.append_assoc,show 2*j+1-1=2*j by omega]
 rw[show N-(2*(j+1))/2=N-(2*(j+1)+1)/2 by omega]
 exact zP _ _ _ _ hA
theorem Qf {l:List Nat}{j v:Nat}:j<l.length→vl 65536 (l.set j v)+65536^j*nth l j=vl 65536 l+65536^j*v:=by
 induction l generalizing j with
 | nil=>intro h;simp at h
 | cons x l ih=>
  intro h
  rcases j with _ | j
  ·simp[nth,dL];omega
  have:=ih (j:=j) (by simpa using h)
  simp only[List.set_cons_succ,dL]
  rw[Nat.pow_succ,show nth (x::l) (j+1)=nth l j by simp[nth],Nat.mul_comm (65536^j) 65536,Nat.mul_assoc,Nat.mul_assoc]
  omega
theorem jN {os a b:List Nat}{i k cr x:Nat}(hj:i+k<os.length) (h:vl 65536 os+65536^(i+k)*cr=vl 65536 (a.take i)*vl 65536 b+65536^i*(nth a i*vl 65536 (b.take k))) (hx:x=nth os (i+k)+cr+nth a i*nth b k):
  vl 65536 (os.set (i+k) (x%65536))+65536^(i+(k+1))*(x/65536)=vl 65536 (a.take i)*vl 65536 b+65536^i*(nth a i*vl 65536 (b.take (k+1))):=by
 have h1:=Qf (v:=x%65536) hj
 have h2:=Nat.mod_add_div x 65536
 have h3:65536^(i+k)*x=65536^(i+k)*(x%65536)+65536^(i+k)*(65536*(x/65536)):=by rw[←Nat.mul_add,h2]
 have h4:65536^(i+k)*x=65536^(i+k)*nth os (i+k)+65536^(i+k)*cr+65536^(i+k)*(nth a i*nth b k):=by rw[hx,Nat.mul_add,Nat.mul_add]
 rw[aS,Nat.mul_add,Nat.mul_add,show i+(k+1)=i+k+1 by omega,Nat.pow_succ,Nat.mul_assoc]
 have h5:65536^i*(nth a i*(65536^k*nth b k))=65536^(i+k)*(nth a i*nth b k):=by
  rw[Nat.pow_add,Nat.mul_left_comm (nth a i),Nat.mul_assoc]
 omega
theorem rR {a b:List Nat}{i k:Nat}(hk:b.length≤k):vl 65536 (a.take i)*vl 65536 b+65536^i*(nth a i*vl 65536 (b.take k))=vl 65536 (a.take (i+1))*vl 65536 b:=by
 rw[aY 65536 hk,aS,Nat.add_mul,Nat.mul_assoc]
theorem wL {os a b:List Nat}{i k cr:Nat}(ha:Lim 65536 a) (hb:Lim 65536 b) (hi:i<a.length) (hk:k≤b.length+1) (h:vl 65536 os+65536^(i+k)*cr=vl 65536 (a.take i)*vl 65536 b+65536^i*(nth a i*vl 65536 (b.take k))) (hc:0<cr):k≤b.length:=by
 rcases Nat.lt_or_ge b.length k with h1 | h1
 ·exfalso
  rw[rR (by omega)]at h
  have h2:=cX (ha.take (i+1))
  have h3:=cX hb
  have h4:vl 65536 (a.take (i+1))*vl 65536 b<65536^(a.take (i+1)).length*65536^b.length:=Nat.mul_lt_mul'' h2 h3
  rw[←Nat.pow_add,List.length_take,Nat.min_eq_left (by omega),show i+1+b.length=i+k by omega]at h4
  have h5:65536^(i+k)*1≤65536^(i+k)*cr:=Nat.mul_le_mul_left _ hc
  omega
 exact h1
end
theorem Ll {k k':Int}(h:aB k=true) (h':aB k'=false):(-1:Int)=(k-k').sign:=by
 unfold aB at h h'
 simp at h h'
 rw[Int.sign_eq_neg_one_of_neg (by omega)]
theorem Lm {k k':Int}(h:aB k=false) (h':aB k'=true):(1:Int)=(k-k').sign:=by
 unfold aB at h h'
 simp at h h'
 rw[Int.sign_eq_one_of_pos (by omega)]
theorem Ln {k k':Int}(h:aB k=true) (h':aB k'=true):(((k'.natAbs:Nat):Int)-((k.natAbs:Nat):Int)).sign=(k-k').sign:=by
 unfold aB at h h'
 simp at h h'
 rw[show((k'.natAbs:Nat):Int)-((k.natAbs:Nat):Int)=k-k' by omega]
theorem Lo {k k':Int}(h:aB k=false) (h':aB k'=false):(((k.natAbs:Nat):Int)-((k'.natAbs:Nat):Int)).sign=(k-k').sign:=by
 unfold aB at h h'
 simp at h h'
 rw[show((k.natAbs:Nat):Int)-((k'.natAbs:Nat):Int)=k-k' by omega]
theorem iD (v:Nat):(dg 4294967296 v).length≤(dg 65536 v).length:=by
 rw[←pD,eQ]
 omega
theorem wM (xs:List Nat){k:Nat}(h:k<xs.length):((cJ xs).map AV.t)[0+k*1]? =some (tv (.int .i64 ((nth xs k:Nat):Int))):=by simp[cJ,bR h,h,tv]
theorem Qg (xs:List Nat){k:Nat}(h:k<xs.length):((aG xs).map AV.t)[0+k*1]? =some (tv (.int .u32 ((nth xs k:Nat):Int))):=by simp[aG,bR h,h,tv]
theorem lX (xs:List Nat){k v:Nat}(h:k<xs.length):cN ((cJ xs).map AV.t) (0+k*1) [tv (.int .i64 (v:Int))]=(cJ (xs.set k v)).map .t:=by
 rw[Nat.zero_add,Nat.mul_one,List.set_eq_take_append_cons_drop,if_pos h]
 simp[cN,cJ,tv,List.map_take,List.map_drop]
theorem sQ (xs:List Nat){k v:Nat}(h:k<xs.length):cN ((aG xs).map AV.t) (0+k*1) [tv (.int .u32 (v:Int))]=(aG (xs.set k v)).map .t:=by
 rw[Nat.zero_add,Nat.mul_one,List.set_eq_take_append_cons_drop,if_pos h]
 simp[cN,aG,tv,List.map_take,List.map_drop]
theorem oH (xs:List Nat){k:Nat}{a:AV}(h:k<xs.length):0+k*1+[a].length≤((cJ xs).map AV.t).length:=by simp[cJ];omega
theorem wN (xs:List Nat){k:Nat}{a:AV}(h:k<xs.length):0+k*1+[a].length≤((aG xs).map AV.t).length:=by simp[aG];omega
theorem wO (m:Nat):(List.replicate m (Value.int .i64 0)).map tv=(cJ (List.replicate m 0)).map .t:=by simp[cJ,tv]
theorem Hi (m:Nat):(List.replicate m (Value.int .u32 0)).map tv=(aG (List.replicate m 0)).map .t:=by simp[aG,tv]
structure Zi where
 s:Bool
 x:List Nat
def Zi.of (k:Int):Zi:=⟨aB k,dg 4294967296 k.natAbs⟩
def gF (a:Zi):FV:=.agg (([.v (.bool a.s),sU false a.x]:List Tr).map .t)
def kF (k:Int):FV:=.agg (([.v (.bool (aB k)),sU false (dg 4294967296 k.natAbs)]:List Tr).map .t)
def kO (k:Int):FV:=.agg (([.v (.bool (aB k)),sU true (dg 4294967296 k.natAbs)]:List Tr).map .t)
def Zn (a:Zi) (k:Int):Prop:=Lim 4294967296 a.x∧a.x.length≤137438953472∧hJ a.s a.x=k
theorem Zn.of {k:Int}(h:(dg 4294967296 k.natAbs).length≤137438953472):Zn (.of k) k:=⟨aE (by omega) _,h,Du k⟩
theorem Vt:Zn ⟨false,[]⟩ 0:=⟨Lim.nil,by simp,rfl⟩
theorem Zn.len {a:Zi}{k:Int}(h:Zn a k):(dg 4294967296 k.natAbs).length≤137438953472:=by
 obtain⟨h1,h2,rfl⟩:=h
 exact Nat.le_trans (sO h1) h2
theorem Zn.right {a:Zi}{k:Int}(h:Zn a k) (hr:cA a.s a.x=true):aB k=a.s∧dg 4294967296 k.natAbs=a.x:=by
 obtain⟨h1,h2,rfl⟩:=h
 exact⟨zD h1 hr,pC h1 hr⟩
theorem Zn.wrong {a:Zi}{k:Int}(h:Zn a k) (hr:cA a.s a.x=false):k=0:=by
 obtain⟨h1,h2,rfl⟩:=h
 exact rQ hr
theorem Hj {a:Zi}{k:Int}(h:Zn a k) (hr:cA a.s a.x=true):gF a=kF k:=by
 obtain⟨h1,h2⟩:=h.right hr
 unfold gF kF
 rw[h1,h2]
theorem mX {b:Bool}{m:Nat}{k:Int}(h:b=aB k) (hm:m=k.natAbs):FV.agg [tv (.bool b),.t (sU true (dg 4294967296 m))]=kO k:=by subst h hm;rfl
theorem sR:FV.agg [tv (.bool false),.t (sU false [])]=kF 0:=by
 unfold kF
 rw[show Int.natAbs 0=0 from rfl,fT]
 rfl
theorem cK (k:Int):kW (kO k):=by
 simp only[kW,kO,nR,List.map_cons,List.map_nil,iV,qY,sU,kG]
 exact⟨trivial,.inl ⟨trivial,fP _⟩,trivial⟩
theorem sS (b:Bool) (m:Nat):kW (.agg (([.v (.bool b),sU true (dg 4294967296 m)]:List Tr).map .t)):=by
 simp only[kW,nR,List.map_cons,List.map_nil,iV,qY,sU,kG]
 exact⟨trivial,.inl ⟨trivial,fP _⟩,trivial⟩
theorem Uw:CallOk Tryd.prog 84:=.mk Tryd.func84 (by decide) rfl
theorem sT {l R:List Nat}{c:Nat}(hl:Lim 256 l) (hR:l.dropWhile (· ==c)=R):aI true Tryd.prog 84 [] [.one (tv (.string (cI l))),.one (tv (.int .u8 ((c:Nat):Int)))] (bF (.one (tv (.string (cI R))))):=by
 refine cF Tryd.func84 rfl Tryd.ntmps84 rfl aA rfl fun N9 w9 c0 h0=>?_
 refine sq ?_;refine rl ?_;refine o1 ?_;refine nl ?_;refine sq ?_;refine bl ?_
 refine lp (γ:=List Nat) (fun l=>cP [(0,.one (tv (.string (cI l)))),(1,.one (tv (.int .u8 ((c:Nat):Int))))]) (fun _=>([]:List Ob).map some) (fun l=>Lim 256 l∧l.dropWhile (· ==c)=R) (fun l=>l.length) l ⟨hl,hR⟩ (aM h0 [] _ _ (by decide) ⟨rfl,rfl,trivial⟩ rfl) fun k hk=>?_
 refine sq ?_;refine sq ?_;refine rl ?_;refine o1 ?_;refine o1 ?_
 refine WL.cast (t:=6) (u':=.int .i64 ((k.length:Nat):Int)) rfl (congrArg (fun n:Nat=>Value.int .i64 (n:Int)) (lS _)) ?_
 refine o1 ?_;refine o1 ?_;refine WL.split (t:=8) rfl (fun h1=>?_) (fun h1=>?_)
 ·refine o1 ?_;refine o1 ?_ (hC:=(by rw[lS];show 0<k.length;omega))
  refine WL.cast (t:=10) (u':=.int .u8 (((nth k 0):Nat):Int)) rfl (congrArg (fun n:Nat=>Value.int .u8 (n:Int)) (Ro (i:=0) (by omega) (Ki (k:=0) hk.1 (by omega)))) ?_
  (iterate 3 refine o1 ?_);refine nl ?_;refine cH rfl (fun h2=>?_) (fun h2=>?_)
  ·refine sk ?_;refine bl ?_;refine rl ?_;refine o1 ?_;refine o1 ?_ (hC:=(by rw[lS];show 1≤k.length;omega))
   refine WL.cast (t:=15) (u':=.string (cI (k.drop 1))) rfl (congrArg Value.string (Kh _ _)) ?_;refine o1 ?_;refine nl ?_
   exact⟨k.drop 1,by rw[List.length_drop];omega,⟨Gp hk.1 1,(Da (by omega) (by omega)).trans hk.2⟩,aM h0 [] _ _ (by decide) ⟨rfl,rfl,trivial⟩ rfl⟩
  refine ex ?_;refine sq ?_;refine rl ?_;refine o1 ?_;refine o1 ?_;refine nl ?_;refine rt ?_
  exact en (.inl rfl) rfl (bN (cR _)) (by decide) (fun _=>trivial) (congrArg (fun z=>FV.one (tv (.string z))) (congrArg cI ((Aw (by omega) (by omega)).trans hk.2)))
 (iterate 4 refine gE ?_);refine o1 ?_;refine nl ?_;refine kE rfl ?_;refine ex ?_;refine sq ?_;refine rl ?_;refine o1 ?_;refine o1 ?_;refine nl ?_;refine rt ?_
 exact en (.inl rfl) rfl (bN (cR _)) (by decide) (fun _=>trivial) (congrArg (fun z=>FV.one (tv (.string z))) (congrArg cI ((Av (by omega)).trans hk.2)))
theorem Bm {l:List Nat}(hl:Lim 256 l):aI true Tryd.prog 74 [] [.one (tv (.string (cI l))),.one (tv (.string ⟨#[48]⟩))] (bF (.one (tv (.string (cI (l.dropWhile (· ==48))))))):=by
 refine cF Tryd.func74 rfl Tryd.ntmps74 rfl aA rfl fun N9 w9 c0 h0=>?_
 refine sq ?_;refine rl ?_;refine o1 ?_;refine nl ?_;refine sq ?_;refine sq ?_;refine rl ?_;refine o1 ?_;refine o1 ?_
 refine WL.cast (t:=8) (u':=.bool (decide (l=[]))) rfl (congrArg Value.bool (vV hl)) ?_;refine o1 ?_;refine WL.splitb (t:=9) rfl (fun h1=>?_) (fun h1=>?_)
 ·refine gE ?_;refine gE ?_;refine o1 ?_;refine nl ?_;refine nB rfl ?_;refine sq ?_;refine rl ?_;refine o1 ?_;refine o1 ?_;refine nl ?_;refine rt ?_
  exact en (.inl rfl) rfl (bN (cR _)) (by decide) (fun _=>trivial) (congrArg (fun z=>FV.one (tv (.string z))) (congrArg cI (by rw[of_decide_eq_true h1];rfl)))
 refine o1 ?_;refine o1 ?_;refine WL.cast (t:=11) (u':=.bool false) rfl (congrArg Value.bool (vV (l:=[48]) (Lim.cons (by omega) Lim.nil))) ?_
 refine o1 ?_;refine nl ?_;refine kE rfl ?_;refine sk ?_;refine sq ?_;refine sq ?_;refine rl ?_;(iterate 3 refine o1 ?_)
 refine WL.cast (t:=16) (u':=.bool true) rfl (congrArg Value.bool rfl) ?_;refine o1 ?_;refine o1 ?_;refine o1 ?_ (hC:=(by decide))
 refine o1 ?_;refine WL.cast (t:=20) (u':=.bool true) rfl (congrArg Value.bool rfl) ?_;refine o1 ?_;refine nl ?_;refine nB rfl ?_;refine sq ?_;refine rl ?_;refine o1 ?_;refine o1 ?_
 refine o1 ?_ (hC:=(by decide))
 refine WL.cast (t:=24) (u':=.int .u8 ((48:Nat):Int)) rfl rfl ?_
 refine ca (sT (c:=48) hl rfl) Uw ⟨a1 rfl,a1 rfl,rfl⟩ (.one (tv (.string (cI (l.dropWhile (· ==48)))))) ?_;refine o1 ?_;refine nl ?_;refine rt ?_
 exact en (.inl rfl) rfl (bN (cR _)) (by decide) (fun _=>trivial) (congrArg (fun z=>FV.one (tv (.string z))) (rfl))
theorem Ef {t n:Nat}{xs:List Nat}(hn:xs.length=n) (hn2:n≤100000000):aI false Tryd.prog 73 [⟨t,1,(cW xs).map .t⟩] [.one (.sl 0 0 n)] (Rt [⟨t,1,(cW xs.reverse).map .t⟩] (.tup [])):=by
 subst hn;refine Sp Tryd.func73 rfl Tryd.ntmps73 rfl aA rfl fun N9 M9 w9 c0 h0=>?_
 refine sq ?_;refine rl ?_;(iterate 5 refine o1 ?_);refine nl ?_;refine bl ?_
 refine lp (γ:=Nat) (fun k=>cP [(0,.one (.sl 0 0 xs.length)),(2,.one (tv (.int .i64 ((k:Nat):Int)))),(3,.one (tv (.int .i64 ((xs.length:Int)-1-(k:Int):Int))))]) (fun k=>[(⟨t,1,(cW (dW xs k)).map .t⟩:Ob)].map some) (fun k=>2*k≤xs.length+1) (fun k=>xs.length-k) 0 (by omega) (Cu h0 [0] _ _ (by decide) rfl ⟨rfl,rfl,Cz (by omega),trivial⟩ ⟨cC (congrArg (fun l=>some (⟨t,1,(cW l).map .t⟩:Ob)) (Rr xs)),rfl⟩) fun k hk=>?_
 have hrl:=fW xs k
 refine sq ?_;refine sq ?_;refine rl ?_;(iterate 3 refine o1 ?_);refine nl ?_;refine cH rfl (fun h1=>?_) (fun h1=>?_)
 ·refine sk ?_;refine sq ?_;refine bl ?_;refine rd [] (fun i=>[15].contains i) mixed ?_
  refine dv 0 ?_;refine dv 1 ?_;refine dv 2 ?_;refine dv 3 ?_;refine WD.cast (t:=17) (u':=.int .i64 (((xs.length-1-k):Nat):Int)) rfl (aJ (by omega)) ?_
  refine dv 4 ?_;refine dv 5 ?_;refine WD.cast (t:=19) (u':=.int .i64 (((xs.length-1-k):Nat):Int)) rfl (aJ (by omega)) ?_
  refine dv 6 ?_;refine dv 8 ?_;refine dv 9 ?_;refine dv 10 ?_;refine WO.two (i:=7) (j:=11) (by kernel_rfl) ?_ ?_
  ·refine At 7 (uF (dW xs k) (k:=(xs.length-1-k)) (by omega)) ?_
   refine WO.one (by kernel_rfl) (At 11 (uF (dW xs k) (k:=k) (by omega)) ?_)
   refine dv 12 ?_;refine Im 13 (oD (dW xs k) (k:=k) (v:=nth (dW xs k) ((xs.length-1-k))) (by omega)) (rE (dW xs k) (by omega)) ?_
   refine dv 14 ?_
   refine Gh 15 (oD ((dW xs k).set (k) (nth (dW xs k) ((xs.length-1-k)))) (k:=(xs.length-1-k)) (v:=nth (dW xs k) (k)) (by simp only[List.length_set];omega)) (rE ((dW xs k).set (k) (nth (dW xs k) ((xs.length-1-k)))) (by simp only[List.length_set];omega)) ?_
   refine aU ?_;refine rl ?_;refine o1 ?_;refine o1 ?_;refine WL.cast (t:=11) (u':=.int .i64 ((k+1:Nat):Int)) rfl (aJ (by omega)) ?_
   (iterate 4 refine o1 ?_);refine nl ?_
   exact⟨k+1,by omega,by omega,Cu h0 [0] _ _ (by decide) rfl ⟨rfl,rfl,Cz (by omega),trivial⟩ ⟨cC (congrArg (fun l=>some (⟨t,1,(cW l).map .t⟩:Ob)) (Ip (by omega))),rfl⟩⟩
  refine At 11 (uF (dW xs k) (k:=k) (by omega)) ?_
  refine WO.one (by kernel_rfl) (At 7 (uF (dW xs k) (k:=(xs.length-1-k)) (by omega)) ?_)
  refine dv 12 ?_;refine Im 13 (oD (dW xs k) (k:=k) (v:=nth (dW xs k) ((xs.length-1-k))) (by omega)) (rE (dW xs k) (by omega)) ?_
  refine dv 14 ?_
  refine Gh 15 (oD ((dW xs k).set (k) (nth (dW xs k) ((xs.length-1-k)))) (k:=(xs.length-1-k)) (v:=nth (dW xs k) (k)) (by simp only[List.length_set];omega)) (rE ((dW xs k).set (k) (nth (dW xs k) ((xs.length-1-k)))) (by simp only[List.length_set];omega)) ?_
  refine aU ?_;refine rl ?_;refine o1 ?_;refine o1 ?_;refine WL.cast (t:=11) (u':=.int .i64 ((k+1:Nat):Int)) rfl (aJ (by omega)) ?_
  (iterate 4 refine o1 ?_);refine nl ?_
  exact⟨k+1,by omega,by omega,Cu h0 [0] _ _ (by decide) rfl ⟨rfl,rfl,Cz (by omega),trivial⟩ ⟨cC (congrArg (fun l=>some (⟨t,1,(cW l).map .t⟩:Ob)) (Ip (by omega))),rfl⟩⟩
 refine ex ?_
 exact Sq (lent':=[⟨t,1,(cW xs.reverse).map .t⟩]) (.inr rfl) rfl Sr (by decide) (fun _ h=>by cases h) ⟨⟨rfl,rfl⟩,trivial⟩ ⟨congrArg (fun l=>some (⟨t,1,(cW l).map .t⟩:Ob)) (Kk (by omega)),trivial⟩ ⟨vH _,trivial⟩ (fun h=>by cases h) ⟨rfl,rfl⟩
theorem Iy {xs:List Nat}{v:Nat}(hx:xs.length≤1000000) (hl:Lim 4294967296 xs) (hv0:vl 4294967296 xs=v):aI true Tryd.prog 56 [] [.one (.t (sU false xs))] (bF (.one (tv (.string (cI (tx v)))))):=by
 refine cF Tryd.func56 rfl Tryd.ntmps56 rfl aA rfl fun N9 w9 c0 h0=>?_
 have hvL:v<4294967296^xs.length:=hv0▸cX hl
 have hvl:=cD (k:=xs.length) (by omega) hvL
 refine sq ?_;refine rl ?_;refine o1 ?_;refine nl ?_;refine sq ?_;refine rl ?_;refine Vo 0 ?_;refine nl ?_;refine sq ?_;refine rl ?_;refine o1 ?_;refine nl ?_;refine sq ?_;refine sq ?_
 refine rl ?_;refine o1 ?_;refine ca (Lb hl (by omega) hv0) Uj ⟨a1 rfl,rfl⟩ (.one (.t (sU false (dg 4294967296 v)))) ?_
 refine o1 ?_;refine nl ?_;refine bl ?_
 refine lp (γ:=(List Nat×List Nat)×Nat) (fun s=>cP [(0,.one (.t (sU false (dg 4294967296 s.2)))),(3,.one (.pt 0 0)),(4,.one (.sl 1 0 s.1.1.length))]) (fun s=>[(⟨94,1,(cW s.1.2).map .t⟩:Ob),⟨5,1,(cW (dG s.1.1)).map .t⟩].map some) (fun s=>s.1.2.length=9∧Lim 10 s.1.1∧vl 10 s.1.1+10^s.1.1.length*s.2=v∧s.2≤v∧s.1.1.length≤10*xs.length+9) (fun s=>s.2) (([],List.replicate 9 0),v) ⟨rfl,Lim.nil,(by simp[vl]),Nat.le_refl _,Nat.zero_le _⟩ ((nr (i:=4) 1 5 1 rfl rfl rfl rfl).trans (aM h0 [0,1] _ _ (by decide) ⟨rfl,rfl,rfl,trivial⟩ ⟨cC rfl,cC (l:=[]) rfl,rfl⟩)) ?_
 rintro⟨⟨ds,oC⟩,u⟩ ⟨ho,hd,hv,hu,hdl⟩;dsimp only at ho hd hv hu hdl⊢;have hul:=jB hu
 refine sq ?_;refine sq ?_;refine rl ?_;(iterate 3 refine o1 ?_);refine nl ?_;refine cH rfl (fun h1=>?_) (fun h1=>?_)
 ·refine sk ?_;refine bl ?_;refine sq ?_;have hup:=Az (B:=4294967296) (u:=u) (by omega)
  refine rl ?_;refine o1 ?_
  refine ca (Pz (u:=u) (d:=1000000000) (by omega) (by omega) (by omega)) Uo ⟨a1 rfl,a1 rfl,rfl⟩ (.tup [.one (.t (sU false (dg 4294967296 (u/1000000000)))),.one (tv (.int .u32 ((u%1000000000:Nat):Int))),.one (tv (.int .i64 0))]) ?_
  (iterate 7 refine o1 ?_);refine nl ?_;refine sq ?_;refine sq ?_;refine rl ?_;refine o1 ?_;refine nl ?_;refine bl ?_
  refine lp (γ:=Nat) (fun i=>cP [(3,.one (.pt 0 0)),(4,.one (.sl 1 0 ds.length)),(5,.one (.t (sU false (dg 4294967296 (u/1000000000))))),(6,.one (tv (.int .u32 ((u%1000000000/10^i:Nat):Int)))),(21,.one (tv (.int .i64 ((i:Nat):Int))))]) (fun i=>[(⟨94,1,(cW (dG (fd (i) (u%1000000000))++oC.drop (i))).map .t⟩:Ob),⟨5,1,(cW (dG ds)).map .t⟩].map some) (fun i=>i≤9) (fun i=>9-i) 0 (Nat.zero_le _) (aM h0 [0,1] _ _ (by decide) ⟨rfl,rfl,rfl,Cz (by rw[Nat.pow_zero,Nat.div_one]),rfl,trivial⟩ ⟨cC rfl,cC rfl,rfl⟩) fun i hi=>?_
  have hlen:(dG (fd (i) (u%1000000000))++oC.drop (i)).length=9:=by rw[List.length_append,fG,iY,List.length_drop];omega
  have hdi:u%1000000000/10^i≤u%1000000000:=Nat.div_le_self _ _
  refine sq ?_;refine rl ?_;refine o1 ?_;refine nl ?_;refine sq ?_;refine cH rfl (fun h2=>?_) (fun h2=>?_)
  ·refine sk ?_;refine sq ?_;refine bl ?_;refine sq ?_;refine rl ?_;refine o1 ?_;refine o1 ?_;refine nl ?_;refine sq ?_;refine rl ?_;(iterate 3 refine o1 ?_)
   refine WL.cast (t:=26) (u':=.int .u32 (((u%1000000000/10^i%10):Nat):Int)) rfl (aJ (fH _ 10)) ?_;refine o1 ?_
   refine WL.cast (t:=27) (u':=.int .u8 (((u%1000000000/10^i%10):Nat):Int)) rfl (aJ (by omega)) ?_
   refine o1 ?_;refine WL.cast (t:=28) (u':=.int .u8 (((48+u%1000000000/10^i%10):Nat):Int)) rfl (aJ (by omega)) ?_
   refine o1 ?_
   refine tM (oD (dG (fd (i) (u%1000000000))++oC.drop (i)) (k:=i) (v:=48+u%1000000000/10^i%10) (by omega)) (rE (dG (fd (i) (u%1000000000))++oC.drop (i)) (by omega)) ?_
   refine nl ?_;refine rl ?_;refine o1 ?_;refine o1 ?_ (hC:=(dX 10 (by omega) (Rx (Nat.lt_of_le_of_lt hdi (by omega)))))
   refine WL.cast (t:=31) (u':=.int .u32 (((u%1000000000/10^i/10):Nat):Int)) rfl (aJ (dE _ 10)) ?_;refine o1 ?_;refine nl ?_;refine rl ?_;refine o1 ?_
   refine WL.cast (t:=32) (u':=.int .i64 ((i+1:Nat):Int)) rfl (aJ (by omega)) ?_
   refine o1 ?_;refine nl ?_
   exact⟨i+1,by omega,by omega,aM h0 [0,1] _ _ (by decide) ⟨rfl,rfl,rfl,Cz (by rw[Nat.pow_succ,Nat.div_div_eq_div_mul]),rfl,trivial⟩ ⟨cC (congrArg (fun l=>some (⟨94,1,(cW l).map .t⟩:Ob)) (Pg (by omega) ho)),cC rfl,rfl⟩⟩
  refine ex ?_;have hi9:i=9:=by omega
  subst hi9;have he9:(dG (fd (9) (u%1000000000))++oC.drop (9))=dG (fd 9 (u%1000000000)):=by rw[List.drop_of_length_le (by omega),List.append_nil]
  refine sq ?_;refine rl ?_;refine o1 ?_
  refine Rp (m:=9) (by_:=1) 2 (DstA.sl (k:=1) (n:=ds.length) (e:=5) (z:=1) rfl (by rw[Au,fG])) (Io _) (Kg _) (by rw[Au,hlen]) (by omega) (by omega) ?_
  refine o1 ?_;refine nl ?_;refine rl ?_;refine o1 ?_;refine o1 ?_;refine nl ?_
  exact⟨((ds++fd 9 (u%1000000000),dG (fd 9 (u%1000000000))),u/1000000000),by dsimp only;omega,⟨by dsimp only;rw[fG,iY],hd.append (Pf _ _),Rw hv,by dsimp only;omega,by dsimp only;rw[List.length_append,iY];have:=Km hv hup hvL;omega⟩,aM h0 [0,2] _ _ (by decide) ⟨rfl,rfl,congrArg (fun n=>some (FV.one (.sl 2 0 n))) (show(ds++fd 9 (u%1000000000)).length=ds.length+9 by rw[List.length_append,iY]),trivial⟩ ⟨cC (congrArg (fun l=>some (⟨94,1,(cW l).map .t⟩:Ob)) he9),cC (congrArg (fun l=>some (⟨5,1,l⟩:Ob)) ((Pd _ _).trans (congrArg (fun l:List Nat=>(cW l).map AV.t) (show dG ds++(dG (fd (9) (u%1000000000))++oC.drop (9))=dG (ds++fd 9 (u%1000000000)) by rw[he9,yV])))),rfl⟩⟩
 refine ex ?_;refine sq ?_;have hu0:u=0:=(dA (B:=4294967296) (by omega)).1 (List.eq_nil_of_length_eq_zero (by omega))
 subst hu0;rw[Nat.mul_zero,Nat.add_zero]at hv;refine rl ?_;refine o1 ?_
 refine cl 2 [1] (Ef (t:=5) (xs:=dG ds) (n:=ds.length) (fG ds) (by omega)) Up ⟨cC rfl,rfl⟩ ⟨rfl,rfl⟩ (ok:=[some ⟨5,1,(cW (dG ds).reverse).map .t⟩]) ⟨cC rfl,rfl⟩ ?_
 refine nl ?_;refine sq ?_;refine sq ?_;refine rl ?_;refine o1 ?_
 refine Vp (xs:=(dG ds).reverse) (Pj rfl (by rw[List.length_reverse,fG])) (by rw[List.length_reverse,fG]) ?_
 refine ca (Bm (yU (yW hd))) Uq ⟨a1 rfl,a1 rfl,rfl⟩ (.one (tv (.string (cI ((dG ds).reverse.dropWhile (· ==48)))))) ?_;refine o1 ?_;refine nl ?_;refine sq ?_
 refine rl ?_;refine o1 ?_;refine o1 ?_
 refine WL.cast (t:=43) (u':=.bool (!decide (((dG ds).reverse.dropWhile (· ==48))=[]))) rfl (congrArg Value.bool (congrArg not (vV (Ph (yU (yW hd)))))) ?_;refine nl ?_
 refine tC rfl (fun h3=>?_) (fun h3=>?_)
 ·refine sq ?_;refine rl ?_;refine o1 ?_;refine o1 ?_;refine nl ?_;refine rt ?_
  exact en (.inl rfl) rfl (bN (cR _)) (by decide) (fun _=>trivial) (congrArg (fun z=>FV.one (tv (.string z))) (congrArg cI (Kn hd hv h3)))
 refine sk ?_;refine sq ?_;refine rl ?_;refine o1 ?_;refine nl ?_;refine rt ?_
 exact en (.inl rfl) rfl (bN (cR _)) (by decide) (fun _=>trivial) (congrArg (fun z=>FV.one (tv (.string z))) (congrArg cI (Pi hd hv h3)))
theorem Eg {xs:List Nat}(hx:xs.length≤4398046511104):aI false Tryd.prog 78 [] [.one (.t (sI false xs))] (bF (.one (.t (sI false (trim xs))))):=by
 refine cF Tryd.func78 rfl Tryd.ntmps78 rfl aA rfl fun N w c0 h0=>?_
 refine sq ?_;refine rl ?_;refine o1 ?_;refine nl ?_;refine sq ?_;refine bl ?_
 refine lp (γ:=List Nat) (fun zs=>cP [(0,.one (.t (sI false zs)))]) (fun _=>([]:List Ob).map some) (fun zs=>trim zs=trim xs∧zs.length≤xs.length) (fun zs=>zs.length) xs ⟨rfl,Nat.le_refl _⟩ (aM h0 [] _ _ (by decide) ⟨rfl,trivial⟩ rfl) fun zs hz=>?_
 refine sq ?_;refine sq ?_;refine rl ?_;(iterate 4 refine o1 ?_);refine WL.split (t:=6) rfl (fun h1=>?_) (fun h1=>?_)
 ·(iterate 4 refine o1 ?_);refine WL.cast (t:=10) (u':=.int .i64 ((zs.length-1:Nat):Int)) rfl (aJ (by omega)) ?_
  refine o1 ?_;refine lQ ([.v (.int .i64 ((nth zs (zs.length-1):Nat):Int))]) (dD zs (k:=zs.length-1) (by omega)) ?_
  refine o1 ?_;refine o1 ?_;refine nl ?_;refine cH rfl (fun h2=>?_) (fun h2=>?_)
  ·refine sk ?_;refine bl ?_;refine rl ?_;(iterate 4 refine o1 ?_);refine WL.cast (t:=18) (u':=.int .i64 ((zs.length-1:Nat):Int)) rfl (aJ (by omega)) ?_
   refine o1 ?_;refine o1 ?_;refine nl ?_
   exact⟨zs.take (zs.length-1),by rw[List.length_take];omega,⟨(by rw[nG (xs:=zs) (k:=zs.length) (by omega) (Nat.le_refl _) (by omega),List.take_length];exact hz.1),by rw[List.length_take];omega⟩,aM h0 [] _ _ (by decide) ⟨congrArg some (Ea (by omega)).symm,trivial⟩ rfl⟩
  refine ex ?_;refine sq ?_;refine rl ?_;refine o1 ?_;refine o1 ?_;refine nl ?_;refine rt ?_;refine en (.inl rfl) rfl (bN (.one (.id rfl))) (by decide) (fun h=>by cases h) ?_
  have hx:trim xs=zs:=by
   rw[←hz.1];have h9:=kQ (xs:=zs) (k:=zs.length) (by omega) (Nat.le_refl _) (by omega)
   rwa[List.take_length]at h9
  rw[hx];rfl
 (iterate 7 refine gE ?_);refine o1 ?_;refine nl ?_;refine kE rfl ?_;refine ex ?_;refine sq ?_;refine rl ?_;refine o1 ?_;refine o1 ?_;refine nl ?_;refine rt ?_
 refine en (.inl rfl) rfl (bN (.one (.id rfl))) (by decide) (fun h=>by cases h) ?_
 have hx:trim xs=zs:=by
  have h9:zs=[]:=List.eq_nil_of_length_eq_zero (by omega)
  rw[←hz.1,h9];rfl
 rw[hx];rfl
theorem fR {xs:List Nat}(hx:xs.length≤1099511627776) (hl:Lim 4294967296 xs):aI false Tryd.prog 62 [] [.one (.t (sU false xs))] (bF (.one (.t (sI false (dg 65536 (vl 4294967296 xs)))))):=by
 refine cF Tryd.func62 rfl Tryd.ntmps62 rfl aA rfl fun N w c0 h0=>?_
 refine sq ?_;refine rl ?_;refine o1 ?_;refine nl ?_;refine sq ?_;refine rl ?_;refine o1 ?_;refine nl ?_;refine sq ?_;refine sq ?_;refine rl ?_;refine o1 ?_;refine nl ?_;refine bl ?_
 refine lp (γ:=Nat) (fun k=>cP [(0,.one (.t (sU false xs))),(3,.one (.sl 0 0 (2*k))),(4,.one (tv (.int .i64 ((k:Nat):Int))))]) (fun k=>[(⟨3,1,(cJ (hv (xs.take k))).map .t⟩:Ob)].map some) (fun k=>k≤xs.length) (fun k=>xs.length-k) 0 (Nat.zero_le _) ((nr (i:=3) 0 3 1 rfl rfl rfl rfl).trans (aM h0 [0] _ _ (by decide) ⟨rfl,rfl,rfl,trivial⟩ ⟨cC (l:=[]) rfl,rfl⟩)) fun k hk=>?_
 have hn:=hl.nth (by omega) k
 refine sq ?_;refine sq ?_;refine rl ?_;(iterate 4 refine o1 ?_);refine nl ?_;refine cH rfl (fun h1=>?_) (fun h1=>?_)
 ·refine sk ?_;refine sq ?_;refine bl ?_;refine rd [] (fun i=>[15].contains i) mixed ?_
  refine dv 0 ?_;refine dv 1 ?_;refine dv 2 ?_;refine dv 3 ?_;refine jI 4 ([.v (.int .u32 ((nth xs (k):Nat):Int))]) (iA xs (k:=k) (by omega)) ?_
  refine dv 5 ?_;refine WD.cast (t:=16) (u':=.int .u32 ((nth xs k%65536:Nat):Int)) rfl (aJ (fH _ 65536)) ?_;refine dv 6 ?_;refine dv 7 ?_;refine dv 8 ?_;refine dv 9 ?_
  refine jI 10 ([.v (.int .u32 ((nth xs (k):Nat):Int))]) (iA xs (k:=k) (by omega)) ?_
  refine dv 11 ?_ (hC:=(dX 65536 (by omega) (by simp only[eB];omega)))
  refine WD.cast (t:=22) (u':=.int .u32 ((nth xs k/65536:Nat):Int)) rfl (aJ (dE _ 65536)) ?_;refine dv 12 ?_;refine vJ (key:=1) 13 (by kernel_rfl) rfl rfl aA rfl trivial ?_
  refine Ii (j:=2) 14 rfl aA rfl rfl rfl (.sl rfl (by rw[List.length_map,eI,kN,List.length_take];omega)) (.sl rfl rfl rfl) rfl rfl (by omega) (by omega) rfl rfl (by kernel_rfl) rfl ?_
  refine gD 15 (by kernel_rfl) rfl rfl aA rfl (by trivial) ?_ (fun h=>by first | rfl | cases h)
  refine aU ?_;refine rl ?_;(iterate 3 refine o1 ?_);refine nl ?_
  exact⟨k+1,by omega,by omega,aM h0 [2] _ _ (by decide) ⟨rfl,rfl,rfl,trivial⟩ ⟨iB rfl (eJ _ [nth xs k%65536,nth xs k/65536]) (zH (by omega)).symm,rfl⟩⟩
 refine ex ?_;refine sq ?_;refine rl ?_;refine WL.sub (pO (i:=3) (zs':=hv xs) rfl rfl rfl (by rw[kN,List.length_take];omega) (by rw[List.take_of_length_le (by omega)])) ?_
 refine o1 ?_;refine ca (Eg (by rw[kN];omega)) Ol ⟨a1 rfl,rfl⟩ (.one (.t (sI false (trim (hv xs))))) ?_
 refine o1 ?_;refine nl ?_;refine rt ?_;exact en (.inl rfl) rfl (bN (.one (.id rfl))) (by decide) (fun h=>by cases h) (by rw[Iv hl];rfl)
theorem qK {xs:List Nat}(hx:xs.length≤4398046511104) (hl:Lim 65536 xs):aI true Tryd.prog 64 [] [.one (.t (sI false xs))] (bF (.one (.t (sU true (dg 4294967296 (vl 65536 xs)))))):=by
 refine cF Tryd.func64 rfl Tryd.ntmps64 rfl aA rfl fun N w c0 h0=>?_
 refine sq ?_;refine rl ?_;refine o1 ?_;refine nl ?_;refine sq ?_;refine rl ?_;refine o1 ?_;refine nl ?_;refine sq ?_;refine rl ?_;refine o1 ?_
 refine ca (Eg hx) Ol ⟨a1 rfl,rfl⟩ (.one (.t (sI false (trim xs)))) ?_;refine o1 ?_;refine nl ?_;refine sq ?_;refine sq ?_;have htl:=bP xs
 have hlt:=hl.trim
 generalize hY:trim xs=ys at htl hlt;refine rl ?_;refine o1 ?_;refine nl ?_;refine bl ?_
 refine lp (γ:=Nat) (fun k=>cP [(0,.one (.t (sI false ys))),(3,.one (.sl 0 0 k)),(4,.one (tv (.int .i64 ((2*k:Nat):Int))))]) (fun k=>[(⟨70,1,(aG (lb (ys.take (2*k)))).map .t⟩:Ob)].map some) (fun k=>2*k≤ys.length+1) (fun k=>ys.length+1-2*k) 0 (Nat.zero_le _) ((nr (i:=3) 0 70 1 rfl rfl rfl rfl).trans (aM h0 [0] _ _ (by decide) ⟨rfl,rfl,rfl,trivial⟩ ⟨cC (l:=[]) rfl,rfl⟩)) fun k hk=>?_
 have hn:=hlt.nth (by omega) (2*k)
 have hn2:=hlt.nth (by omega) (2*k+1)
 refine sq ?_;refine sq ?_;refine rl ?_;(iterate 4 refine o1 ?_);refine nl ?_;refine cH rfl (fun h1=>?_) (fun h1=>?_)
 ·refine sk ?_;refine sq ?_;refine bl ?_;refine sq ?_;refine rl ?_;refine o1 ?_;refine nl ?_;refine sq ?_;refine sq ?_;refine rl ?_;refine o1 ?_;refine o1 ?_
  refine WL.cast (t:=15) (u':=.int .i64 ((2*k+1:Nat):Int)) rfl (aJ (by omega)) ?_
  (iterate 3 refine o1 ?_);refine nl ?_;refine cH rfl (fun h2=>?_) (fun h2=>?_)
  ·refine rl ?_;(iterate 3 refine o1 ?_);refine WL.cast (t:=21) (u':=.int .i64 ((2*k+1:Nat):Int)) rfl (aJ (by omega)) ?_
   refine o1 ?_;refine lQ ([.v (.int .i64 ((nth ys (2*k+1):Nat):Int))]) (dD ys (k:=2*k+1) (by omega)) ?_
   refine o1 ?_;refine nl ?_;refine rl ?_;(iterate 4 refine o1 ?_);refine lQ ([.v (.int .i64 ((nth ys (2*k):Nat):Int))]) (dD ys (k:=2*k) (by omega)) ?_
   (iterate 5 refine o1 ?_);refine WL.cast (t:=33) (u':=.int .u32 ((nth ys (2*k)+65536*nth ys (2*k+1):Nat):Int)) rfl (aJ (by omega)) ?_
   refine bs 1 ?_;refine fK (j:=2) aA rfl rfl rfl rfl (.sl rfl (by rw[List.length_map,fF,eQ,List.length_take];omega)) (.sl rfl rfl rfl) rfl rfl rfl (by omega) (by omega) ?_
   refine o1 ?_;refine nl ?_;refine rl ?_;(iterate 3 refine o1 ?_);refine nl ?_
   exact⟨k+1,by omega,by omega,aM h0 [2] _ _ (by decide) ⟨rfl,rfl,rfl,trivial⟩ ⟨Eb rfl (wJ _ [nth ys (2*k)+65536*nth ys (2*k+1)]) (pE (by omega)).symm,rfl⟩⟩
  have hz:=cQ (l:=ys) (k:=2*k+1) (by omega)
  refine sk ?_;refine rl ?_;(iterate 4 refine o1 ?_);refine lQ ([.v (.int .i64 ((nth ys (2*k):Nat):Int))]) (dD ys (k:=2*k) (by omega)) ?_
  (iterate 5 refine o1 ?_);refine WL.cast (t:=33) (u':=.int .u32 ((nth ys (2*k)+65536*nth ys (2*k+1):Nat):Int)) rfl (aJ (by omega)) ?_
  refine bs 1 ?_;refine fK (j:=2) aA rfl rfl rfl rfl (.sl rfl (by rw[List.length_map,fF,eQ,List.length_take];omega)) (.sl rfl rfl rfl) rfl rfl rfl (by omega) (by omega) ?_
  refine o1 ?_;refine nl ?_;refine rl ?_;(iterate 3 refine o1 ?_);refine nl ?_
  exact⟨k+1,by omega,by omega,aM h0 [2] _ _ (by decide) ⟨rfl,rfl,rfl,trivial⟩ ⟨Eb rfl (wJ _ [nth ys (2*k)+65536*nth ys (2*k+1)]) (pE (by omega)).symm,rfl⟩⟩
 refine ex ?_;refine sq ?_;refine rl ?_;refine o1 ?_;refine o1 ?_;refine nl ?_;refine rt ?_
 exact en (.inl rfl) rfl (bN (.one (.sl (trs:=aG (lb ys)) rfl rfl (by rw[List.take_of_length_le (l:=ys) (by omega),List.take_of_length_le (by simp[fF,eQ];omega)]) (by rw[fF,eQ];omega)))) (by decide) (fun _=>.inl ⟨rfl,fP _⟩) (by rw[←pD,cT (by omega) hl,hY];unfold sU;rw[show k=(lb ys).length by rw[eQ];omega];rfl)
theorem jO {xs:List Nat}{k:Nat}:aI true Tryd.prog 63 [] [.one (.t (sI false xs)),.one (tv (.int .i64 ((k:Nat):Int)))] (bF (.one (tv (.int .i64 ((nth xs k:Nat):Int))))):=by
 refine cF Tryd.func63 rfl Tryd.ntmps63 rfl aA rfl fun N w c0 h0=>?_
 refine sq ?_;refine rl ?_;refine o1 ?_;refine nl ?_;refine sq ?_;refine sq ?_;refine rl ?_;(iterate 4 refine o1 ?_);refine nl ?_;refine cH rfl (fun h1=>?_) (fun h1=>?_)
 ·refine sq ?_;refine rl ?_;(iterate 3 refine o1 ?_);refine lQ ([.v (.int .i64 ((nth xs (k):Nat):Int))]) (dD xs (k:=k) (by omega)) ?_
  refine o1 ?_;refine nl ?_;refine rt ?_;refine en (.inl rfl) rfl (bN (cR _)) (by decide) (fun _=>trivial) ?_
  rfl
 refine sk ?_;refine sq ?_;refine rl ?_;refine o1 ?_;refine nl ?_;refine rt ?_;refine en (.inl rfl) rfl (bN (cR _)) (by decide) (fun _=>trivial) ?_
 rw[cQ (by omega)];rfl
theorem Lp {xs:List Nat}(hx:xs.length≤1099511627776) (hlx:Lim 4294967296 xs):aI true Tryd.prog 60 [] [.one (.t (sU false xs))] (bF (.one (.t (sU true (dg 4294967296 (vl 4294967296 xs)))))):=by
 refine cF Tryd.func60 rfl Tryd.ntmps60 rfl aA rfl fun N w c0 h0=>?_
 have hd:=cL (v:=vl 4294967296 xs) (L:=xs.length) (by rw[cT (by omega) hlx];exact bP _)
 have hl9:=aE (B:=65536) (by omega) (vl 4294967296 xs)
 refine sq ?_;refine rl ?_;refine o1 ?_;refine nl ?_;refine sq ?_;refine rl ?_;refine o1 ?_
 refine ca (fR hx hlx) qG ⟨a1 rfl,rfl⟩ (.one (.t (sI false (dg 65536 (vl 4294967296 xs))))) ?_;refine jJ 0 (qK (by omega) (by assumption)) Gg ⟨a1 rfl,rfl⟩ ?_
 refine o1 ?_;refine nl ?_;refine rt ?_
 exact en (.inl rfl) rfl (bN (.one (.sl (trs:=aG (dg 4294967296 (vl 65536 (dg 65536 (vl 4294967296 xs))))) rfl rfl (bK _) (bI _)))) (by decide) (fun _=>.inl ⟨rfl,fP _⟩) (by rw[bC (by omega)];rfl)
theorem wP {xs ys:List Nat}(hx:xs.length≤1099511627776) (hlx:Lim 4294967296 xs) (hy:ys.length≤1099511627776) (hly:Lim 4294967296 ys):aI true Tryd.prog 54 [] [.one (.t (sU false xs)),.one (.t (sU false ys))] (bF (.one (tv (.int .i64 (((vl 4294967296 xs:Nat):Int)-((vl 4294967296 ys:Nat):Int)).sign)))):=by
 refine cF Tryd.func54 rfl Tryd.ntmps54 rfl aA rfl fun N w c0 h0=>?_
 refine sq ?_;refine rl ?_;refine o1 ?_;refine nl ?_;refine sq ?_;refine rl ?_;refine o1 ?_
 refine ca (fR hx hlx) qG ⟨a1 rfl,rfl⟩ (.one (.t (sI false (dg 65536 (vl 4294967296 xs))))) ?_;refine o1 ?_
 refine ca (fR hy hly) qG ⟨a1 rfl,rfl⟩ (.one (.t (sI false (dg 65536 (vl 4294967296 ys))))) ?_;refine o1 ?_;refine o1 ?_;refine nl ?_;refine sq ?_;refine sq ?_
 have hdx:=cL (v:=vl 4294967296 xs) (L:=xs.length) (by rw[cT (by omega) hlx];exact bP _)
 have hdy:=cL (v:=vl 4294967296 ys) (L:=ys.length) (by rw[cT (by omega) hly];exact bP _)
 have hX:=aE (B:=65536) (by omega) (vl 4294967296 xs)
 have hY:=aE (B:=65536) (by omega) (vl 4294967296 ys)
 have hvX:=bC (B:=65536) (by omega) (vl 4294967296 xs)
 have hvY:=bC (B:=65536) (by omega) (vl 4294967296 ys)
 generalize dg 65536 (vl 4294967296 xs)=X at hdx hX hvX⊢;generalize dg 65536 (vl 4294967296 ys)=Y at hdy hY hvY⊢;refine rl ?_;(iterate 5 refine o1 ?_)
 refine WL.cast (t:=16) (u':=.int .i64 ((max X.length Y.length:Nat):Int)) rfl (aJ (by omega)) ?_
 refine o1 ?_;refine o1 ?_;refine nl ?_;refine bl ?_
 refine lp (γ:=Nat) (fun k=>cP [(5,.one (.t (sI false X))),(6,.one (.t (sI false Y))),(7,.one (tv (.int .i64 ((k:Nat)-1))))]) (fun k=>([]:List Ob).map some) (fun k=>(∀j,k≤j→nth X j=nth Y j)∧k≤max X.length Y.length) (fun k=>k) (max X.length Y.length) ⟨fun j hj=>by rw[cQ (by omega),cQ (by omega)],Nat.le_refl _⟩ (aM h0 [] _ _ (by decide) ⟨rfl,rfl,rfl,trivial⟩ rfl) fun k hk=>?_
 refine sq ?_;refine sq ?_;refine rl ?_;refine o1 ?_;refine o1 ?_;refine nl ?_;refine cH rfl (fun h1=>?_) (fun h1=>?_)
 ·refine sk ?_;refine sq ?_;refine bl ?_;refine sq ?_;refine sq ?_;refine rl ?_;refine o1 ?_;refine o1 ?_
  refine WL.cast (t:=23) (u':=.int .i64 ((k-1:Nat):Int)) rfl (aJ (by omega)) ?_
  refine ca (jO) mQ ⟨a1 rfl,a1 rfl,rfl⟩ (.one (tv (.int .i64 ((nth X (k-1):Nat):Int)))) ?_;refine o1 ?_;refine o1 ?_
  refine WL.cast (t:=26) (u':=.int .i64 ((k-1:Nat):Int)) rfl (aJ (by omega)) ?_
  refine ca (jO) mQ ⟨a1 rfl,a1 rfl,rfl⟩ (.one (tv (.int .i64 ((nth Y (k-1):Nat):Int)))) ?_;refine o1 ?_;refine nl ?_;refine cH rfl (fun h2=>?_) (fun h2=>?_)
  ·refine sq ?_;refine rl ?_;refine o1 ?_;refine nl ?_;refine rt ?_;refine en (.inl rfl) rfl (bN (cR _)) (by decide) (fun _=>trivial) (congrArg (fun z=>FV.one (tv (.int .i64 z))) ?_)
   have he:=uG (X:=X) (Y:=Y) (k:=k-1) hX (fun j hj=>hk.1 j (by omega)) (by omega)
   rw[hvX,hvY]at he;rw[Int.sign_eq_neg_one_of_neg (by omega)]
  refine sk ?_;refine sq ?_;refine rl ?_;refine o1 ?_;refine o1 ?_;refine WL.cast (t:=30) (u':=.int .i64 ((k-1:Nat):Int)) rfl (aJ (by omega)) ?_
  refine ca (jO) mQ ⟨a1 rfl,a1 rfl,rfl⟩ (.one (tv (.int .i64 ((nth X (k-1):Nat):Int)))) ?_;refine o1 ?_;refine o1 ?_
  refine WL.cast (t:=33) (u':=.int .i64 ((k-1:Nat):Int)) rfl (aJ (by omega)) ?_
  refine ca (jO) mQ ⟨a1 rfl,a1 rfl,rfl⟩ (.one (tv (.int .i64 ((nth Y (k-1):Nat):Int)))) ?_;refine o1 ?_;refine nl ?_;refine cH rfl (fun h3=>?_) (fun h3=>?_)
  ·refine sq ?_;refine rl ?_;refine o1 ?_;refine nl ?_;refine rt ?_;refine en (.inl rfl) rfl (bN (cR _)) (by decide) (fun _=>trivial) (congrArg (fun z=>FV.one (tv (.int .i64 z))) ?_)
   have he:=uG (X:=Y) (Y:=X) (k:=k-1) hY (fun j hj=>(hk.1 j (by omega)).symm) (by omega)
   rw[hvX,hvY]at he;rw[Int.sign_eq_one_of_pos (by omega)]
  refine sk ?_;refine rl ?_;(iterate 3 refine o1 ?_);refine nl ?_
  exact⟨k-1,by omega,⟨fun j hj=>(Nat.eq_or_lt_of_le hj).elim (fun h9=>by rw[←h9];omega) (fun h9=>hk.1 j (by omega)),by omega⟩,aM h0 [] _ _ (by decide) ⟨rfl,rfl,congrArg (fun z=>some (FV.one (tv (.int .i64 z)))) (by omega),trivial⟩ rfl⟩
 refine ex ?_;refine sq ?_;refine rl ?_;refine o1 ?_;refine nl ?_;refine rt ?_
 refine en (.inl rfl) rfl (bN (cR _)) (by decide) (fun _=>trivial) (congrArg (fun z=>FV.one (tv (.int .i64 z))) ?_)
 have he:=Dy (fun j=>hk.1 j (by omega))
 rw[hvX,hvY]at he;rw[he,Int.sub_self];rfl
theorem Qh {xs ys:List Nat}(hx:xs.length≤1099511627776) (hlx:Lim 4294967296 xs) (hy:ys.length≤1099511627776) (hly:Lim 4294967296 ys):aI true Tryd.prog 48 [] [.one (.t (sU false xs)),.one (.t (sU false ys))] (bF (.one (.t (sU true (dg 4294967296 (vl 4294967296 xs+vl 4294967296 ys)))))):=by
 refine cF Tryd.func48 rfl Tryd.ntmps48 rfl aA rfl fun N w c0 h0=>?_
 refine sq ?_;refine rl ?_;refine o1 ?_;refine nl ?_;refine sq ?_;refine rl ?_;refine o1 ?_
 refine ca (fR hx hlx) qG ⟨a1 rfl,rfl⟩ (.one (.t (sI false (dg 65536 (vl 4294967296 xs))))) ?_;refine o1 ?_
 refine ca (fR hy hly) qG ⟨a1 rfl,rfl⟩ (.one (.t (sI false (dg 65536 (vl 4294967296 ys))))) ?_;refine o1 ?_;refine o1 ?_;refine nl ?_;refine sq ?_
 have hdx:=cL (v:=vl 4294967296 xs) (L:=xs.length) (by rw[cT (by omega) hlx];exact bP _)
 have hdy:=cL (v:=vl 4294967296 ys) (L:=ys.length) (by rw[cT (by omega) hly];exact bP _)
 have hX:=aE (B:=65536) (by omega) (vl 4294967296 xs)
 have hY:=aE (B:=65536) (by omega) (vl 4294967296 ys)
 have hvX:=bC (B:=65536) (by omega) (vl 4294967296 xs)
 have hvY:=bC (B:=65536) (by omega) (vl 4294967296 ys)
 generalize dg 65536 (vl 4294967296 xs)=X at hdx hX hvX⊢;generalize dg 65536 (vl 4294967296 ys)=Y at hdy hY hvY⊢;refine rl ?_;refine o1 ?_;refine nl ?_;refine sq ?_;refine rl ?_
 refine o1 ?_;refine nl ?_;refine sq ?_;refine sq ?_;refine rl ?_;refine o1 ?_;refine nl ?_;refine bl ?_
 refine lp (γ:=Nat×Nat×List Nat) (fun s=>cP [(5,.one (.t (sI false X))),(6,.one (.t (sI false Y))),(7,.one (.sl 0 0 s.1)),(8,.one (tv (.int .i64 ((s.2.1:Nat):Int)))),(9,.one (tv (.int .i64 ((s.1:Nat):Int))))]) (fun s=>[(⟨3,1,(cJ s.2.2).map .t⟩:Ob)].map some) (fun s=>s.2.2.length=s.1∧Lim 65536 s.2.2∧vl 65536 s.2.2+65536^s.1*s.2.1=vl 65536 (X.take s.1)+vl 65536 (Y.take s.1)∧s.2.1≤1∧(s.1≤max X.length Y.length∨s.1=max X.length Y.length+1∧s.2.1=0)) (fun s=>max X.length Y.length+1-s.1) (0,0,[]) ⟨rfl,Lim.nil,rfl,Nat.zero_le _,.inl (Nat.zero_le _)⟩ ((nr (i:=7) 0 3 1 rfl rfl rfl rfl).trans (aM h0 [0] _ _ (by decide) ⟨rfl,rfl,rfl,rfl,rfl,trivial⟩ ⟨cC (l:=[]) rfl,rfl⟩)) ?_
 rintro⟨k,cr,os⟩ ⟨hos,hol,hv,hc1,hkm⟩;dsimp only at hos hol hv hc1 hkm⊢;have hn1:=hX.nth (by omega) k
 have hn2:=hY.nth (by omega) k
 refine sq ?_;refine sq ?_;refine rl ?_;(iterate 6 refine o1 ?_);refine WL.cast (t:=20) (u':=.int .i64 ((max X.length Y.length:Nat):Int)) rfl (aJ (by omega)) ?_
 refine o1 ?_;refine o1 ?_;refine WL.split (t:=22) rfl (fun h1=>?_) (fun h1=>?_)
 ·refine gE ?_;refine gE ?_;refine o1 ?_;refine nl ?_;refine nB rfl ?_;refine sk ?_;refine sq ?_;refine bl ?_;refine sq ?_;refine rl ?_;refine o1 ?_;refine o1 ?_
  refine ca (jO) mQ ⟨a1 rfl,a1 rfl,rfl⟩ (.one (tv (.int .i64 ((nth X (k):Nat):Int)))) ?_;refine o1 ?_;refine o1 ?_
  refine ca (jO) mQ ⟨a1 rfl,a1 rfl,rfl⟩ (.one (tv (.int .i64 ((nth Y (k):Nat):Int)))) ?_;(iterate 3 refine o1 ?_)
  refine WL.cast (t:=36) (u':=.int .i64 ((nth X k+nth Y k+cr:Nat):Int)) rfl (aJ (by omega)) ?_
  refine o1 ?_;refine nl ?_;refine sq ?_;refine rl ?_;(iterate 3 refine o1 ?_)
  refine WL.cast (t:=39) (u':=.int .i64 (((nth X k+nth Y k+cr)%65536:Nat):Int)) rfl (aJ (fH _ 65536)) ?_;refine bs 1 ?_
  refine fK (j:=2) aA rfl rfl rfl rfl (.sl rfl (by rw[List.length_map,eI,hos];omega)) (.sl rfl rfl rfl) rfl rfl rfl (by omega) (by omega) ?_
  refine o1 ?_;refine nl ?_;refine rl ?_;refine o1 ?_;refine o1 ?_ (hC:=(dX 65536 (by omega) (by simp only[eB];omega)))
  refine WL.cast (t:=43) (u':=.int .i64 (((nth X k+nth Y k+cr)/65536:Nat):Int)) rfl (aJ (dE _ 65536)) ?_;refine o1 ?_;refine nl ?_;refine rl ?_;(iterate 3 refine o1 ?_)
  refine nl ?_;have hst:=wH hos hv
  have hz1:X.length≤k→nth X k=0:=fun h=>cQ (by omega)
  have hz2:Y.length≤k→nth Y k=0:=fun h=>cQ (by omega)
  exact⟨(k+1,(nth X k+nth Y k+cr)/65536,os++[(nth X k+nth Y k+cr)%65536]),by dsimp only;omega,⟨by simp[hos],hol.append (Lim.cons (Nat.mod_lt _ (by omega)) Lim.nil),hst,by dsimp only;omega,by dsimp only;omega⟩,aM h0 [2] _ _ (by decide) ⟨rfl,rfl,rfl,rfl,rfl,trivial⟩ ⟨iB rfl (eJ _ [(nth X k+nth Y k+cr)%65536]) rfl,rfl⟩⟩
 (iterate 3 refine o1 ?_);refine nl ?_;refine cH rfl (fun h2=>?_) (fun h2=>?_)
 ·refine sk ?_;refine sq ?_;refine bl ?_;refine sq ?_;refine rl ?_;refine o1 ?_;refine o1 ?_;refine ca (jO) mQ ⟨a1 rfl,a1 rfl,rfl⟩ (.one (tv (.int .i64 ((nth X (k):Nat):Int)))) ?_
  refine o1 ?_;refine o1 ?_;refine ca (jO) mQ ⟨a1 rfl,a1 rfl,rfl⟩ (.one (tv (.int .i64 ((nth Y (k):Nat):Int)))) ?_;(iterate 3 refine o1 ?_)
  refine WL.cast (t:=36) (u':=.int .i64 ((nth X k+nth Y k+cr:Nat):Int)) rfl (aJ (by omega)) ?_
  refine o1 ?_;refine nl ?_;refine sq ?_;refine rl ?_;(iterate 3 refine o1 ?_)
  refine WL.cast (t:=39) (u':=.int .i64 (((nth X k+nth Y k+cr)%65536:Nat):Int)) rfl (aJ (fH _ 65536)) ?_;refine bs 1 ?_
  refine fK (j:=2) aA rfl rfl rfl rfl (.sl rfl (by rw[List.length_map,eI,hos];omega)) (.sl rfl rfl rfl) rfl rfl rfl (by omega) (by omega) ?_
  refine o1 ?_;refine nl ?_;refine rl ?_;refine o1 ?_;refine o1 ?_ (hC:=(dX 65536 (by omega) (by simp only[eB];omega)))
  refine WL.cast (t:=43) (u':=.int .i64 (((nth X k+nth Y k+cr)/65536:Nat):Int)) rfl (aJ (dE _ 65536)) ?_;refine o1 ?_;refine nl ?_;refine rl ?_;(iterate 3 refine o1 ?_)
  refine nl ?_;have hst:=wH hos hv
  have hz1:X.length≤k→nth X k=0:=fun h=>cQ (by omega)
  have hz2:Y.length≤k→nth Y k=0:=fun h=>cQ (by omega)
  exact⟨(k+1,(nth X k+nth Y k+cr)/65536,os++[(nth X k+nth Y k+cr)%65536]),by dsimp only;omega,⟨by simp[hos],hol.append (Lim.cons (Nat.mod_lt _ (by omega)) Lim.nil),hst,by dsimp only;omega,by dsimp only;omega⟩,aM h0 [2] _ _ (by decide) ⟨rfl,rfl,rfl,rfl,rfl,trivial⟩ ⟨iB rfl (eJ _ [(nth X k+nth Y k+cr)%65536]) rfl,rfl⟩⟩
 refine ex ?_;refine sq ?_;refine rl ?_;have hc0:cr=0:=by omega
 rw[hc0,Nat.mul_zero,Nat.add_zero,aY 65536 (by omega),aY 65536 (by omega),hvX,hvY]at hv
 refine WL.sub (pO (i:=7) (zs':=os) rfl rfl rfl (by omega) rfl) ?_
 refine o1 ?_;refine jJ 1 (qK (by omega) (by assumption)) Gg ⟨a1 rfl,rfl⟩ ?_
 refine o1 ?_;refine nl ?_;refine rt ?_
 exact en (.inl rfl) rfl (bN (.one (.sl (trs:=aG (dg 4294967296 (vl 65536 os))) rfl rfl (bK _) (bI _)))) (by decide) (fun _=>.inl ⟨rfl,fP _⟩) (by rw[hv];rfl)
theorem Eh {xs ys:List Nat}(hx:xs.length≤1099511627776) (hlx:Lim 4294967296 xs) (hy:ys.length≤1099511627776) (hly:Lim 4294967296 ys):aI true Tryd.prog 49 [] [.one (.t (sU false xs)),.one (.t (sU false ys))] (bF (.tup [.one (.t (sU true (dg 4294967296 (vl 4294967296 xs-vl 4294967296 ys)))),.one (tv (.int .i64 (if vl 4294967296 xs<vl 4294967296 ys then 2 else 0)))])):=by
 refine cF Tryd.func49 rfl Tryd.ntmps49 rfl aA rfl fun N w c0 h0=>?_
 refine sq ?_;refine rl ?_;refine o1 ?_;refine o1 ?_;refine nl ?_;refine sq ?_;refine sq ?_;refine rl ?_;refine o1 ?_;refine o1 ?_
 refine ca (wP hx hlx hy hly) Gf ⟨a1 rfl,a1 rfl,rfl⟩ (.one (tv (.int .i64 (((vl 4294967296 xs:Nat):Int)-((vl 4294967296 ys:Nat):Int)).sign))) ?_;refine o1 ?_;refine nl ?_
 refine cH rfl (fun h1=>?_) (fun h1=>?_)
 ·refine sq ?_;refine rl ?_;refine o1 ?_;refine o1 ?_;refine nl ?_;refine rt ?_;have hlt:=Qc h1
  exact en (.inl rfl) rfl (Ih (.cons (.one (.nil (t:=70) (z:=1))) (.cons (cR _) .nil))) (by decide) (fun _=>⟨.inl ⟨rfl,trivial⟩,trivial,trivial⟩) (by rw[Nat.sub_eq_zero_of_le (Nat.le_of_lt hlt),if_pos hlt];rfl)
 refine sk ?_;refine sq ?_;refine rl ?_;refine o1 ?_;refine ca (fR hx hlx) qG ⟨a1 rfl,rfl⟩ (.one (.t (sI false (dg 65536 (vl 4294967296 xs))))) ?_;refine o1 ?_
 refine ca (fR hy hly) qG ⟨a1 rfl,rfl⟩ (.one (.t (sI false (dg 65536 (vl 4294967296 ys))))) ?_;refine o1 ?_;refine o1 ?_;refine nl ?_;refine sq ?_
 have hge:vl 4294967296 ys≤vl 4294967296 xs:=Qb h1
 have hyx:=bX (B:=65536) (by omega) hge
 have hdx:=cL (v:=vl 4294967296 xs) (L:=xs.length) (by rw[cT (by omega) hlx];exact bP _)
 have hdy:=cL (v:=vl 4294967296 ys) (L:=ys.length) (by rw[cT (by omega) hly];exact bP _)
 have hX:=aE (B:=65536) (by omega) (vl 4294967296 xs)
 have hY:=aE (B:=65536) (by omega) (vl 4294967296 ys)
 have hvX:=bC (B:=65536) (by omega) (vl 4294967296 xs)
 have hvY:=bC (B:=65536) (by omega) (vl 4294967296 ys)
 generalize dg 65536 (vl 4294967296 xs)=X at hdx hX hvX hyx⊢;generalize dg 65536 (vl 4294967296 ys)=Y at hdy hY hvY hyx⊢;refine rl ?_;refine o1 ?_;refine nl ?_;refine sq ?_;refine rl ?_
 refine o1 ?_;refine nl ?_;refine sq ?_;refine sq ?_;refine rl ?_;refine o1 ?_;refine nl ?_;refine bl ?_
 refine lp (γ:=Nat×Nat×List Nat) (fun s=>cP [(6,.one (.t (sI false X))),(7,.one (.t (sI false Y))),(8,.one (.sl 0 0 s.1)),(9,.one (tv (.int .i64 ((s.2.1:Nat):Int)))),(10,.one (tv (.int .i64 ((s.1:Nat):Int))))]) (fun s=>[(⟨3,1,(cJ s.2.2).map .t⟩:Ob)].map some) (fun s=>s.2.2.length=s.1∧Lim 65536 s.2.2∧vl 65536 s.2.2+vl 65536 (Y.take s.1)=vl 65536 (X.take s.1)+65536^s.1*s.2.1∧s.2.1≤1∧s.1≤X.length) (fun s=>X.length-s.1) (0,0,[]) ⟨rfl,Lim.nil,rfl,Nat.zero_le _,Nat.zero_le _⟩ ((nr (i:=8) 0 3 1 rfl rfl rfl rfl).trans (aM h0 [0] _ _ (by decide) ⟨rfl,rfl,rfl,rfl,rfl,trivial⟩ ⟨cC (l:=[]) rfl,rfl⟩)) ?_
 rintro⟨k,br,os⟩ ⟨hos,hol,hv,hc1,hkm⟩;dsimp only at hos hol hv hc1 hkm⊢;have hn1:=hX.nth (by omega) k
 have hn2:=hY.nth (by omega) k
 refine sq ?_;refine sq ?_;refine rl ?_;(iterate 4 refine o1 ?_);refine nl ?_;refine cH rfl (fun h2=>?_) (fun h2=>?_)
 ·refine sk ?_;refine sq ?_;refine bl ?_;refine sq ?_;refine rd [] (fun i=>[10].contains i) mixed ?_
  refine dv 0 ?_;refine dv 1 ?_;refine dv 2 ?_;refine jI 3 ([.v (.int .i64 ((nth X (k):Nat):Int))]) (dD X (k:=k) (by omega)) ?_
  refine dv 4 ?_;refine dv 5 ?_;refine dv 8 ?_;refine aK 6 rfl (jO) mQ ⟨a1 rfl,a1 rfl,rfl⟩ (.one (tv (.int .i64 ((nth Y (k):Nat):Int)))) ?_;refine df 7 ?_;refine df 9 ?_
  refine gD 10 (by kernel_rfl) rfl rfl aA rfl (by trivial) ?_ (fun h=>by first | rfl | cases h)
  refine aU ?_;refine sq ?_;refine rl ?_;refine o1 ?_;refine nl ?_;refine sq ?_;refine sq ?_;refine rl ?_;refine o1 ?_;refine o1 ?_;refine nl ?_
  refine cH rfl (fun h3=>?_) (fun h3=>?_)
  ·refine sq ?_;refine rl ?_;(iterate 3 refine o1 ?_);refine nl ?_;refine rl ?_;refine o1 ?_;refine nl ?_;refine rl ?_
   refine WL.cast (t:=11) (u':=.int .i64 (((nth X k+65536-nth Y k-br:Nat)):Int)) rfl (aJ (by omega)) ?_
   refine o1 ?_;refine o1 ?_;refine bs 1 ?_
   refine fK (j:=2) aA rfl rfl rfl rfl (.sl rfl (by rw[List.length_map,eI,hos];omega)) (.sl rfl rfl rfl) rfl rfl rfl (by omega) (by omega) ?_
   refine o1 ?_;refine nl ?_;refine rl ?_;(iterate 3 refine o1 ?_);refine nl ?_;have hst:=wI (d:=nth X k+65536-nth Y k-br) (br':=1) hos hv (by omega)
   exact⟨(k+1,1,os++[nth X k+65536-nth Y k-br]),by dsimp only;omega,⟨by simp[hos],hol.append (Lim.cons (by omega) Lim.nil),hst,by dsimp only;omega,by dsimp only;omega⟩,aM h0 [2] _ _ (by decide) ⟨rfl,rfl,rfl,rfl,rfl,trivial⟩ ⟨iB rfl (eJ _ [nth X k+65536-nth Y k-br]) rfl,rfl⟩⟩
  refine sk ?_;refine rl ?_;refine WL.cast (t:=11) (u':=.int .i64 (((nth X k-nth Y k-br:Nat)):Int)) rfl (aJ (by omega)) ?_
  refine o1 ?_;refine o1 ?_;refine bs 1 ?_
  refine fK (j:=2) aA rfl rfl rfl rfl (.sl rfl (by rw[List.length_map,eI,hos];omega)) (.sl rfl rfl rfl) rfl rfl rfl (by omega) (by omega) ?_
  refine o1 ?_;refine nl ?_;refine rl ?_;(iterate 3 refine o1 ?_);refine nl ?_;have hst:=wI (d:=nth X k-nth Y k-br) (br':=0) hos hv (by omega)
  exact⟨(k+1,0,os++[nth X k-nth Y k-br]),by dsimp only;omega,⟨by simp[hos],hol.append (Lim.cons (by omega) Lim.nil),hst,by dsimp only;omega,by dsimp only;omega⟩,aM h0 [2] _ _ (by decide) ⟨rfl,rfl,rfl,rfl,rfl,trivial⟩ ⟨iB rfl (eJ _ [nth X k-nth Y k-br]) rfl,rfl⟩⟩
 refine ex ?_;refine sq ?_;refine rl ?_;have hoo:=cX hol
 rw[hos]at hoo;rw[aY 65536 (l:=X) (by omega),aY 65536 (l:=Y) (by omega),hvX,hvY]at hv
 have hb0:br=0:=by
  rcases Nat.eq_zero_or_pos br with h0 | h0
  ·exact h0
  have h1:br=1:=by omega
  rw[h1,Nat.mul_one,show k=X.length by omega]at hv
  rw[show k=X.length by omega]at hoo
  omega
 rw[hb0,Nat.mul_zero,Nat.add_zero]at hv;have he:vl 65536 os=vl 4294967296 xs-vl 4294967296 ys:=by omega
 refine WL.sub (pO (i:=8) (zs':=os) rfl rfl rfl (by omega) rfl) ?_
 refine o1 ?_;refine jJ 1 (qK (by omega) (by assumption)) Gg ⟨a1 rfl,rfl⟩ ?_
 refine o1 ?_;refine o1 ?_;refine nl ?_;refine rt ?_
 exact en (.inl rfl) rfl (Ih (.cons (.one (.sl (trs:=aG (dg 4294967296 (vl 65536 os))) rfl rfl (bK _) (bI _))) (.cons (cR _) .nil))) (by decide) (fun _=>⟨.inl ⟨rfl,fP _⟩,trivial,trivial⟩) (by rw[he,if_neg (by omega)];rfl)
end Go.Proofs.YtecamoobdlghfaaDoor
