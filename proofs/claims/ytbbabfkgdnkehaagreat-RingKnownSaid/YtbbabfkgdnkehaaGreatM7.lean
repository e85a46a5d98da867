/- Part 7 of a proof: Rat3 to G1. -/
import Derived.Test.YtbbabfkgdnkehaaGreatM6
import Derived.Test.YtbbabfkgdnkehaaGreatM1
import Derived.KernelRfl
import Derived.Test.YtbbabfkgdnkehaaGreatProg
import Derived.Test.YtbbabfkgdnkehaaGreatM4
import Derived.Test.YtbbabfkgdnkehaaGreatM5
set_option maxRecDepth 100000
set_option linter.unusedVariables false
set_option linter.unusedSimpArgs false
namespace Go.Proofs.YtbbabfkgdnkehaaGreat
open Go Go.RowKit
theorem Ca (k:Nat):fG false (dg 4294967296 k)=(k:Int):=by
 have h:=zY (k:Int)
 rwa[Bz,Int.natAbs_natCast]at h
theorem qJ {N D:Int}(h0:0<D):(Rat.divInt N D).num=N.fdiv (Int.gcd N D)∧((Rat.divInt N D).den:Int)=D.fdiv (Int.gcd N D):=by
 have hg:(0:Int)≤(Int.gcd N D:Int):=by omega
 rw[Int.fdiv_eq_ediv_of_nonneg _ hg,Int.fdiv_eq_ediv_of_nonneg _ hg,Rat.num_divInt,Rat.den_divInt,Int.gcd_comm D N,Int.sign_eq_one_of_pos h0,if_neg (by omega),Int.one_mul]
 refine⟨rfl,?_⟩
 rw[Int.natCast_ediv,Int.natAbs_of_nonneg (by omega)]
theorem Qu {N D:Int}(h0:D<0):(Rat.divInt N D).num=N.fdiv (-(Int.gcd N D:Int))∧((Rat.divInt N D).den:Int)=D.fdiv (-(Int.gcd N D:Int)):=by
 have hg:(0:Int)≤(Int.gcd N D:Int):=by omega
 have h:=qJ (N:=-N) (D:=-D) (by omega)
 rw[Rat.neg_divInt_neg]at h
 have e:Int.gcd (-N) (-D)=Int.gcd N D:=by rw[Int.gcd_neg,Int.neg_gcd]
 rw[e]at h
 rw[h.1,h.2]
 refine⟨?_,?_⟩
 ·rw[←Int.neg_fdiv_neg,Int.neg_neg]
 rw[←Int.neg_fdiv_neg,Int.neg_neg]
theorem pH (a b:Nat):(dg 4294967296 (a*b)).length≤(dg 4294967296 a).length+(dg 4294967296 b).length:=by
 refine dR (by omega) ?_
 rw[Nat.pow_add]
 exact Nat.mul_lt_mul_of_lt_of_lt (rP (by omega)) (rP (by omega))
theorem Sq (a b:Int):(dg 4294967296 (a*b).natAbs).length≤(dg 4294967296 a.natAbs).length+(dg 4294967296 b.natAbs).length:=by
 rw[Int.natAbs_mul]
 exact pH _ _
theorem Sr (a b:Int){L:Nat}(ha:(dg 4294967296 a.natAbs).length≤L) (hb:(dg 4294967296 b.natAbs).length≤L):(dg 4294967296 (a+b).natAbs).length≤L+1:=by
 refine dR (by omega) ?_
 have h1:a.natAbs<4294967296^L:=Nat.lt_of_lt_of_le (rP (by omega)) (Nat.pow_le_pow_right (by omega) ha)
 have h2:b.natAbs<4294967296^L:=Nat.lt_of_lt_of_le (rP (by omega)) (Nat.pow_le_pow_right (by omega) hb)
 rw[Nat.pow_succ]
 generalize 4294967296^L=p at*
 omega
theorem IH {p q:Rat}(h:p.den=q.den):Rat.divInt (p.num+q.num) (p.den:Int)=p+q:=by
 have hp:(p.den:Int)≠0:=by have:=p.den_nz;omega
 have e:=Rat.divInt_add_divInt p.num q.num hp hp
 have e1:=Rat.num_divInt_den p
 have e2:=Rat.num_divInt_den q
 rw[←h]at e2
 rw[e1,e2]at e
 rw[e,←Int.add_mul,Rat.divInt_mul_right hp]
theorem tX (p q:Rat):Rat.divInt (p.num*q.den+q.num*p.den) ((p.den:Int)*q.den)=p+q:=by
 have hp:(p.den:Int)≠0:=by have:=p.den_nz;omega
 have hq:(q.den:Int)≠0:=by have:=q.den_nz;omega
 have e:=Rat.divInt_add_divInt p.num q.num hp hq
 rw[Rat.num_divInt_den,Rat.num_divInt_den]at e
 exact e.symm
structure Lv where
 A:Option Addr
 n:Nat
 c:Nat
structure Zv where
 s:Bool
 A:Option Addr
 n:Nat
 c:Nat
structure Rv where
 s:Bool
 A:Option Addr
 n:Nat
 c:Nat
 t:Bool
 B:Option Addr
 m:Nat
 d:Nat
structure LimR (W:World) (N:Nat→Prop) (A:Option Addr) (n c:Nat) (xs:List Nat):Prop where
 len:xs.length=n
 cap:n≤c
 big:c≤9223372036854775807
 lim:Lim 4294967296 xs
 cell:0<n→∃ad,A=some ad∧N ad.block∧∀k u,(iI xs)[k]? =some u→W.cell? (ad.add k)=some u
section
variable {W W':World}{N N':Nat→Prop}{A:Option Addr}{n c:Nat}{xs:List Nat}
theorem LimR.u32 {B:Nat}(h:LimR W N A n c xs) (hN:∀b,N b→b<B):U32 W B A n c xs:=
 ⟨⟨by rw[kX,h.len,Nat.mul_one],h.cap,h.big,fun hn=>let ⟨ad,e,hb,hc⟩:=h.cell hn;⟨ad,e,hN _ hb,hc⟩⟩,h.lim⟩
end
theorem Kd (q:Rat):bY (aL q.num) (dg 4294967296 q.num.natAbs) false (dg 4294967296 q.den)=true:=by
 unfold bY
 have h1:=zX q.num
 have h2:=zX (q.den:Int)
 have h3:=zY q.num
 rw[Bz,Int.natAbs_natCast]at h2
 have h4:=Ca q.den
 rw[h1,h2,h3,h4]
 have hp:=q.den_pos
 have hg:Int.gcd q.num q.den=1:=q.reduced
 simp[hg,hp]
theorem UT (q:Rat):zZ (aL q.num) (dg 4294967296 q.num.natAbs) false (dg 4294967296 q.den)=q:=by
 unfold zZ
 rw[Kd,zY,Ca]
 simp only[if_true]
 exact Rat.num_divInt_den q
theorem Own.blk {t:TypeId}{w:World}{base n c:Nat}{A:Option Addr}{xs:List Nat}(h:Own t w base A n c xs):∀b∈(Value.slice A n c).ownBlock.toList,base≤b∧b<w.heap.size:=by
 intro b hb
 rcases h.row.2 with⟨h2,_⟩ | ⟨g,cap,cur,hv,hb',hh,rest⟩
 ·rw[h2]at hb
  simp[Value.ownBlock]at hb
 rw[hv]at hb
 simp[Value.ownBlock]at hb
 subst hb
 exact⟨hb',(Array.getElem?_eq_some_iff.1 hh).1⟩
def wK (L:Nat) (k:Int):Prop:=(dg 4294967296 k.natAbs).length≤L
theorem Mj {L:Nat}{q:Rat}(h:Sz L q):wK L (q.den:Int):=by
 unfold wK
 rw[Int.natAbs_natCast]
 exact h.2
section
variable {w:World}{r r':Rv}{p q:Rat}
end
section
variable {w:World}{z z':Zv}{k k':Int}
end
theorem Jh {L M:Nat}{a b:Int}(ha:wK L a) (hb:wK M b):wK (L+M) (a*b):=Nat.le_trans (Sq a b) (Nat.add_le_add ha hb)
theorem Ss {a b:Int}(hb:0<b):(Rat.divInt a b).num.sign=a.sign:=by
 rw[(qJ (N:=a) hb).1]
 have hg:0<Int.gcd a b:=Nat.gcd_pos_of_pos_right _ (by omega)
 have hd:((Int.gcd a b:Nat):Int)∣ a:=Int.gcd_dvd_left ..
 obtain⟨k,hk⟩:=hd
 generalize Int.gcd a b=g at*
 subst hk
 have h1:((g:Int)*k).fdiv g=k:=by
  rw[Int.fdiv_eq_ediv_of_nonneg _ (by omega)]
  exact Int.mul_ediv_cancel_left k (by omega)
 rw[h1,Int.sign_mul,Int.sign_eq_one_of_pos (show(0:Int)<g by omega),Int.one_mul]
theorem Zr (p q:Rat):(p.num*(q.den:Int)-q.num*(p.den:Int)).sign=(p-q).num.sign:=by
 have h:=tX p (-q)
 rw[Rat.neg_num,Rat.neg_den,Int.neg_mul,←Int.sub_eq_add_neg,←Rat.sub_eq_add_neg]at h
 rw[←h,Ss]
 exact Int.mul_pos (by have:=p.den_pos;omega) (by have:=q.den_pos;omega)
theorem ON {a:Rat}:a.num<0↔a<0:=by
 rw[Rat.lt_iff]
 simp
theorem II {a:Rat}:0<a.num↔0<a:=by
 rw[Rat.lt_iff]
 simp
theorem yN (p q:Rat):(p-q).num.sign=if p<q then-1 else if p=q then 0 else 1:=by
 split
 ·rename_i h
  have h1:p-q<0:=by grind
  exact Int.sign_eq_neg_one_of_neg (ON.2 h1)
 split
 ·rename_i h
  subst h
  rw[show p-p=0 by grind]
  rfl
 rename_i h1 h2
 have h3:0<p-q:=by grind
 exact Int.sign_eq_one_of_pos (II.2 h3)
theorem Sz.mono {L M:Nat}{q:Rat}(h:Sz L q) (hL:L≤M):Sz M q:=⟨Nat.le_trans h.1 hL,Nat.le_trans h.2 hL⟩
theorem uI {a b:Int}{L M:Nat}(hb:0<b) (ha:wK L a) (hb':wK M b):(dg 4294967296 (Rat.divInt a b).num.natAbs).length≤L∧(dg 4294967296 (Rat.divInt a b).den).length≤M:=by
 have h1:=(qJ (N:=a) hb)
 have hg:0<Int.gcd a b:=Nat.gcd_pos_of_pos_right _ (by omega)
 constructor
 ·refine Nat.le_trans (dX (by omega) ?_) ha
  rw[h1.1]
  have hd:((Int.gcd a b:Nat):Int)∣ a:=Int.gcd_dvd_left ..
  obtain⟨k,hk⟩:=hd
  generalize Int.gcd a b=g at*
  subst hk
  rw[Int.fdiv_eq_ediv_of_nonneg _ (by omega),Int.mul_ediv_cancel_left k (by omega),Int.natAbs_mul]
  exact Nat.le_mul_of_pos_left _ (by omega)
 refine Nat.le_trans (dX (by omega) ?_) hb'
 have h2:((Rat.divInt a b).den:Int)≤b:=by
  rw[h1.2,Int.fdiv_eq_ediv_of_nonneg _ (by omega)]
  exact Int.ediv_le_self _ (by omega)
 omega
theorem vB {L M:Nat}{p q:Rat}(hp:Sz L p) (hq:Sz M q):Sz (L+M+1) (p+q):=by
 rw[←tX p q]
 have h1:=Jh hp.1 (Mj hq)
 have h2:=Jh hq.1 (Mj hp)
 have h3:=Jh (Mj hp) (Mj hq)
 have h4:wK (L+M+1) (p.num*q.den+q.num*p.den):=Sr _ _ h1 (Nat.le_trans h2 (by omega))
 have h5:=uI (Int.mul_pos (show(0:Int)<p.den by have:=p.den_pos;omega) (show(0:Int)<q.den by have:=q.den_pos;omega)) h4 h3
 exact⟨h5.1,Nat.le_trans h5.2 (by omega)⟩
theorem sY {L:Nat}{p:Rat}(hp:Sz L p):Sz L (-p):=⟨by rw[Rat.neg_num,Int.natAbs_neg];exact hp.1,by rw[Rat.neg_den];exact hp.2⟩
theorem kD {L M:Nat}{p q:Rat}(hp:Sz L p) (hq:Sz M q):Sz (L+M+1) (p-q):=by
 rw[Rat.sub_eq_add_neg]
 exact vB hp (sY hq)
theorem vC {z:Int}(h1:-9223372036854775808≤z) (h2:z≤9223372036854775807):Sz 2 (z:Rat):=by
 refine⟨?_,?_⟩
 ·exact dR (by omega) (by show z.natAbs<_;omega)
 exact dR (by omega) (by show(1:Nat)<_;omega)
theorem Tq (p q:Rat):decide ((q-p).num.sign<0)=decide (q<p):=by
 rw[yN]
 by_cases h:q<p
 ·simp[h]
 by_cases h2:q=p
 ·subst h2;simp[h]
 simp[h,h2]
theorem NC (p q:Rat):decide (0<(q-p).num.sign)=decide (p<q):=by
 rw[yN]
 by_cases h:q<p
 ·have:¬p<q:=by grind
  simp[h,this]
 by_cases h2:q=p
 ·subst h2;simp[h]
 have:p<q:=by grind
 simp[h,h2,this]
def aO (p:Rat) (l:List Rat):Rat:=l.foldl (fun a b=>if b<a then b else a) p
def dY (p:Rat) (l:List Rat):Rat:=l.foldl (fun a b=>if a<b then b else a) p
theorem IJ (p:Rat) (l:List Rat):aO p l=p∨aO p l∈l:=by
 unfold aO
 induction l generalizing p with
 | nil=>exact .inl rfl
 | cons x l ih=>
  rw[List.foldl_cons]
  rcases ih (if x<p then x else p)with h | h
  ·rw[h]
   split
   ·exact .inr (by simp)
   exact .inl rfl
  exact .inr (List.mem_cons_of_mem _ h)
def aJ (xs:List Nat):List Tr:=xs.map fun(n:Nat)=>.v (.int .u32 (n:Int))
def sU (o:Bool) (xs:List Nat):Tr:=.s o 113 1 xs.length (aJ xs)
theorem gK (xs:List Nat):(aJ xs).length=xs.length:=by simp[aJ]
theorem RK (xs:List Nat):gU ((aJ xs).map .t)=true:=by
 induction xs with
 | nil=>rfl
 | cons x xs ih=>simpa[aJ,gU,rA]using ih
theorem FE (xs:List Nat):fJ ((aJ xs).map .t)=true:=by
 induction xs with
 | nil=>rfl
 | cons x xs ih=>simpa[aJ,fJ,lone]using ih
theorem gA (xs:List Nat):NoFrL (aJ xs):=by
 induction xs with
 | nil=>simp[aJ,NoFrL]
 | cons x xs ih=>simpa[aJ,NoFrL,nZ]using ih
structure Fr4 where
 s:Bool
 x:List Nat
 t:Bool
 y:List Nat
namespace Fr4
def tr (o:Bool) (a:Fr4):List Tr:=[.v (.bool a.s),sU o a.x,.v (.bool a.t),sU o a.y]
def q (a:Fr4):Rat:=zZ a.s a.x a.t a.y
def of (q:Rat):Fr4:=⟨aL q.num,dg 4294967296 q.num.natAbs,false,dg 4294967296 q.den⟩
def ok (a:Fr4):Prop:=Lim 4294967296 a.x∧Lim 4294967296 a.y∧a.x.length≤68719476736∧a.y.length≤68719476736
theorem q_of (q:Rat):(of q).q=q:=UT q
end Fr4
def qF (a:Fr4):FV:=.agg ((a.tr false).map .t)
def qO (q:Rat):FV:=.agg (((Fr4.of q).tr true).map .t)
theorem tA (q:Rat):lD (qO q):=by
 simp only[lD,qO,rD,Fr4.tr,List.map_cons,List.map_nil,mJ,uH,sU,nZ]
 exact⟨trivial,.inl ⟨trivial,gA _⟩,trivial,.inl ⟨trivial,gA _⟩,trivial⟩
section
variable {W:World}{N:Nat→Prop}
theorem Ji {o:Bool}{xs:List Nat}{u:Value}(h:FR W N (sU o xs) u) (hl:Lim 4294967296 xs):∃A c,u=.slice A xs.length c∧LimR W N A xs.length c xs:=by
 simp only[sU,FR]at h
 obtain⟨A,c,rfl,h1,h2,h3,h4⟩:=h
 refine⟨A,c,rfl,rfl,h1,h2,hl,fun hn=>?_⟩
 rcases h4 with h4 | ⟨ad,rfl,h5,h6⟩
 ·omega
 refine⟨ad,rfl,h5,fun k u hk=>?_⟩
 simp only[iI,List.getElem?_map,Option.map_eq_some_iff]at hk
 obtain⟨m,hm,rfl⟩:=hk
 obtain⟨u,e1,e2⟩:=pQ h6 (j:=k) (x:=.v (.int .u32 (m:Int))) (by simp[aJ,hm])
 simp only[FR]at e2
 rw[Nat.zero_add]at e1
 rw[e1,e2]
theorem Ab {t:TypeId}{base n c:Nat}{A:Option Addr}{xs:List Nat}(h:Own t W base A n c xs):∃y:VT,y.val=.slice A n c∧OR W N (.s true t 1 xs.length (aJ xs)) y∧y.ok W∧y.fp=(Value.slice A n c).ownBlock.toList:=by
 have hl:=h.len
 rcases h.row.2 with⟨h2,h3⟩ | ⟨g,cap,cur,hv,_,hg,hnc,hcm,hcs,htake⟩
 ·injection h2 with e1 e2 e3
  subst e1 e3
  subst h3
  have:xs=[]:=List.eq_nil_of_length_eq_zero hl
  subst this
  exact⟨.w (.slice none 0 0),rfl,by simp[OR,aJ],by simp[VT.ok],by simp[VT.fp,Value.ownBlock]⟩
 injection hv with e1 e2 e3
 subst e1 e3
 have hor:ORL W N (aJ xs) ((iI xs).map VT.w):=by
  clear hl htake h
  induction xs with
  | nil=>simp[aJ,iI,ORL]
  | cons x xs ih=>simpa[aJ,iI,ORL,OR]using ih
 refine⟨.s g c t 1 n ((iI xs).map .w),rfl,?_,?_,by simp[VT.fp,pB,Value.ownBlock]⟩
 ·simp only[OR]
  exact⟨trivial,hl.symm,trivial,trivial,hor⟩
 simp only[VT.ok]
 refine⟨⟨cur.toList.drop (n*1),?_,?_⟩,hnc,hcm,by simp[kX,hl],xQ _⟩
 ·rw[xS,←htake,List.take_append_drop]
  simpa using hg
 rw[xS,←htake,List.take_append_drop]
 simpa using hcs
end
section
variable {f:FuncId}{args:List FV}
theorem Ac {N:Nat→Prop}{w:World}{cs:List Co}{us:List Value}(hL:Loc ((aQ (cB []) cs).flatMap Res.S) w w (aQ (cB []) cs) [(BI [] cs args us).on N]):cs=[]∧eG w (fun b=>b<w.heap.size∧N b) [] args us:=by
 have h:=Sh.off (hL.sh 0 rfl)
 have hc:cs=[]:=List.eq_nil_of_length_eq_zero (by have:=h.1.1;simpa[cB]using this.symm)
 subst hc
 exact⟨rfl,lX (fun _ _=>rfl) (fun b hb=>⟨hb.1.1,hb.2⟩) .refl _ _ h.2⟩
theorem Ended.mk0 {fresh:Bool}{N:Nat→Prop}{M:List Nat}{w W:World}{R:List Lt→FV→Prop}{v:Value}{r:FV}{y:List VT}(hR:R [] r) (hb:Below w.heap.size w W) (hok:VT.okL W y) (hnd:(VT.fpL y).Nodup) (hfp:∀b∈VT.fpL y,w.heap.size≤b∧b<W.heap.size)
  (hro:RO W (fun b=>fresh=false∧(b<W.heap.size∧b∉VT.fpL y)∧(N b∨w.heap.size≤b)) [] r v y):Ended fresh N M w [] [] R (.returned v) W:=by
 refine⟨v,[],[],r,y,rfl,hR,rfl,fun _ _ _ h=>by simp at h,rfl,.refl,?_⟩
 refine⟨⟨hb.os,hb.tape,hb.output,hb.size,fun k hk _=>hb.block k hk⟩,fun q hq=>?_,fun b hb=>?_,by simpa[cB,aQ,jK]using hnd,fun q hq=>?_⟩
 ·simp[cB,aQ]at hq
  subst hq
  exact hok
 ·have:=hfp b (by simpa[cB,aQ,jK]using hb)
  exact⟨.inr this.1,this.2⟩
 simp at hq
 subst hq
 refine⟨⟨rfl,fun k o hk=>by simp[cB]at hk⟩,sF (fun _ _=>rfl) (fun b hb=>⟨hb.1,⟨⟨hb.2.1.1,?_⟩,hb.2.2.elim .inl fun h=>.inr (.inr h)⟩⟩) .refl hro⟩
 simpa[cB,aQ,jK]using hb.2.1.2
theorem IK {v:Value}(h:∀(N:Nat→Prop) (w:World) us,eG w N [] args us→(∀b,N b→b<w.heap.size)→Calls Tryz.prog f us.toArray w (fun e w'=>e=.returned v∧Below w.heap.size w w')):aE true Tryz.prog f [] args (aT (.one (tv v))):=by
 intro N w cs us hL
 obtain⟨rfl,hf⟩:=Ac hL
 refine(h _ w us hf (fun b hb=>hb.1)).mono ?_
 rintro e W ⟨rfl,hb⟩
 refine .mk0 (y:=[.w v]) rfl hb (by simp[VT.okL,VT.ok]) (by simp[VT.fpL,VT.fp]) (by simp[VT.fpL,VT.fp]) ⟨.w v,rfl,rfl,?_⟩
 simp[CR,tv,OR]
end
theorem Qv {W:World}{N:Nat→Prop}{a b:FV}{us:List Value}(h:eG W N [] [a,b] us):∃u v,us=[u,v]∧cD W N [] a u∧cD W N [] b v:=by
 match us,h with
 | [u,v],h=>
  simp only[eG]at h
  exact⟨u,v,rfl,h.1,h.2.1⟩
 | [],h=>simp only[eG]at h
 | [_],h=>simp only[eG]at h;exact h.2.elim
 | _::_::_::_,h=>simp only[eG]at h;exact absurd h.2.2 (by simp)
theorem IL {W:World}{N:Nat→Prop}{a:FV}{us:List Value}(h:eG W N [] [a] us):∃u,us=[u]∧cD W N [] a u:=by
 match us,h with
 | [u],h=>
  simp only[eG]at h
  exact⟨u,rfl,h.1⟩
 | [],h=>simp only[eG]at h
 | _::_::_,h=>simp only[eG]at h;exact absurd h.2 (by simp)
section
variable {a b:Fr4}
end
theorem oW (xs:List Nat){k:Nat}(h:k<xs.length):((aJ xs).drop (k*1)).take [Tr.v (.int .u32 ((nth xs k:Nat):Int))].length=[Tr.v (.int .u32 ((nth xs k:Nat):Int))]:=by
 rw[Nat.mul_one]
 have:(aJ xs)[k]? =some (Tr.v (.int .u32 ((nth xs k:Nat):Int))):=by simp[aJ,eV h,h]
 rw[List.length_singleton,List.take_one]
 simp[this]
theorem iU {x:Cx}{g:Nat→FV}{ob:List (Option Ob)}(h0:x.c0.length=0) (τ:List Nat) (live:List (Nat×FV)) (os:List Ob) (hn:τ.Nodup) (h1:tE τ g live) (h2:jB τ ob τ os):Sub x g ob (bP live) (os.map some):=
 su τ (fun k hk=>by rw[h0]at hk;cases hk) live os hn h1 h2
theorem FF {xs ys:List Nat}{k:Nat}(h:xs.take k=ys.take k) (h1:k<xs.length) (h2:k<ys.length) (he:nth xs k=nth ys k):xs.take (k+1)=ys.take (k+1):=by
 rw[List.take_add_one,List.take_add_one,h]
 rw[eV h1,eV h2]at he
 simp[gG h1,gG h2,he]
theorem bS (xs:List Nat):((aJ xs).map AV.t).take (xs.length*1)=(aJ xs).map .t:=by rw[Nat.mul_one,fF (by simp[gK])]
theorem aV (xs:List Nat):(aJ xs).length=xs.length*1:=by simp[gK]
def rO (a:Fr4):FV:=.agg ((a.tr true).map .t)
theorem vJ (a:Fr4):lD (rO a):=by
 simp only[lD,rO,rD,Fr4.tr,List.map_cons,List.map_nil,mJ,uH,sU,nZ]
 exact⟨trivial,.inl ⟨trivial,gA _⟩,trivial,.inl ⟨trivial,gA _⟩,trivial⟩
theorem zC {a b:Fr4}:a=b↔(a.s=b.s∧a.t=b.t)∧a.x=b.x∧a.y=b.y:=by
 obtain⟨s,x,t,y⟩:=a
 obtain⟨s',x',t',y'⟩:=b
 simp only[Fr4.mk.injEq]
 constructor
 ·rintro⟨h1,h2,h3,h4⟩
  exact⟨⟨h1,h3⟩,h2,h4⟩
 rintro⟨⟨h1,h3⟩,h2,h4⟩
 exact⟨h1,h2,h3,h4⟩
instance:DecidableEq Fr4:=fun a b=>decidable_of_iff _ zC.symm
def Fr4.len (a:Fr4) (m:Nat):Prop:=a.x.length≤m∧a.y.length≤m
theorem aP {x:Cx}{g:Nat→FV}{ob:List (Option Ob)}{live:List (Nat×FV)}{os:List Ob}(h0:x.c0.length=0) (τ:List Nat) (h2:jB τ ob τ os) (hn:τ.Nodup:=by decide) (h1:tE τ g live:=by repeat' first | exact trivial | refine⟨rfl,?_⟩):Sub x g ob (bP live) (os.map some):=iU h0 τ live os hn h1 h2
def hv:List Nat→List Nat
 | []=>[]
 | x::xs=>x%65536::x/65536::hv xs
def lb:List Nat→List Nat
 | []=>[]
 | [a]=>[a]
 | a::b::l=>(a+65536*b)::lb l
theorem Ld:∀(a b:List Nat),hv (a++b)=hv a++hv b
 | [],_=>rfl
 | x::xs,b=>by simp only[List.cons_append,hv,Ld xs b]
theorem tL:∀(a:List Nat),(hv a).length=2*a.length
 | []=>rfl
 | x::xs=>by simp only[hv,List.length_cons,tL xs];omega
theorem CK:∀{a:List Nat},Lim 4294967296 a→Lim 65536 (hv a)
 | [],_=>Lim.nil
 | x::xs,h=>Lim.cons (Nat.mod_lt _ (by omega)) (Lim.cons (by have:=h.head;omega) (CK h.tail))
theorem LB:∀(a:List Nat),vl 65536 (hv a)=vl 4294967296 a
 | []=>rfl
 | x::xs=>by
  simp only[hv,iD,LB xs]
  have:=Nat.mod_add_div x 65536
  omega
theorem LC {a:List Nat}(h:Lim 4294967296 a):trim (hv a)=dg 65536 (vl 4294967296 a):=by rw[←LB,gC (by omega) (CK h)]
theorem Vr {a:List Nat}{k:Nat}(h:k<a.length):hv (a.take (k+1))=hv (a.take k)++[nth a k%65536,nth a k/65536]:=by
 rw[rG h,Ld]
 rfl
theorem LD:∀(a:List Nat),vl 4294967296 (lb a)=vl 65536 a
 | []=>rfl
 | [a]=>by simp[lb,uV]
 | a::b::l=>by
  simp only[lb,iD,LD l]
  omega
theorem CL:∀{a:List Nat},Lim 65536 a→Lim 4294967296 (lb a)
 | [],_=>Lim.nil
 | [a],h=>Lim.cons (by have:=h.head;omega) Lim.nil
 | a::b::l,h=>Lim.cons (by have:=h.head;have:=h.tail.head;omega) (CL h.tail.tail)
theorem kE:∀(a:List Nat),(lb a).length=(a.length+1)/2
 | []=>rfl
 | [a]=>by simp[lb]
 | a::b::l=>by simp only[lb,List.length_cons,kE l];omega
theorem UU {a:List Nat}(h:lb a=[]):a=[]:=by
 rcases a with _ | ⟨x,_ | ⟨y,l⟩⟩
 ·rfl
 ·simp[lb]at h
 simp[lb]at h
theorem Vs:∀{a:List Nat},trim a=a→trim (lb a)=lb a
 | [],_=>rfl
 | [a],h=>h
 | a::b::l,h=>by
  have hl:trim l=l:=by
   rw[fT]at h
   split at h
   ·cases h
   injection h with _ h
   rw[fT]at h
   split at h
   ·cases h
   injection h
  have ih:=Vs hl
  simp only[lb]
  rw[fT,ih]
  split
  ·rename_i hc
   have h0:=UU hc.1
   subst h0
   rw[fT,fT,DR]at h
   have hb:b=0:=by omega
   have ha:a=0:=by omega
   subst hb ha
   simp at h
  rfl
theorem Cb (v:Nat):lb (dg 65536 v)=dg 4294967296 v:=by
 have h:=Vs (uX (B:=65536) (by omega) v)
 rw[←h,←gC (B:=4294967296) (by omega) (CL (aU (by omega) v)),LD,cV (by omega)]
theorem Cc:∀{l:List Nat}{k:Nat},2*k<l.length→lb (l.take (2*(k+1)))=lb (l.take (2*k))++[nth l (2*k)+65536*nth l (2*k+1)]
 | [],_,h=>by simp at h
 | [a],0,_=>by simp[lb,nth]
 | [a],k+1,h=>by simp at h
 | a::b::l,0,_=>by simp[lb,nth]
 | a::b::l,k+1,h=>by
  have ih:=Cc (l:=l) (k:=k) (by simp at h;omega)
  have e1:2*(k+1+1)=2*(k+1)+1+1:=by omega
  have e2:2*(k+1)=2*k+1+1:=by omega
  rw[e1,List.take_succ_cons,List.take_succ_cons]
  simp only[lb]
  rw[ih,e2,List.take_succ_cons,List.take_succ_cons]
  simp only[lb,List.cons_append]
  simp[nth]
theorem fO {v L:Nat}(h:(dg 4294967296 v).length≤L):(dg 65536 v).length≤2*L:=by
 have h1:=rP (B:=4294967296) (by omega) (n:=v)
 refine dR (by omega) (Nat.lt_of_lt_of_le h1 ?_)
 rw[Nat.pow_mul]
 exact Nat.pow_le_pow_right (by omega) h
theorem Qw {X Y os:List Nat}{k cr:Nat}(hl:os.length=k) (h:vl 65536 os+65536^k*cr=vl 65536 (X.take k)+vl 65536 (Y.take k)):
  vl 65536 (os++[(nth X k+nth Y k+cr)%65536])+65536^(k+1)*((nth X k+nth Y k+cr)/65536)=vl 65536 (X.take (k+1))+vl 65536 (Y.take (k+1)):=by
 rw[oB,bZ,bZ,hl,Nat.pow_succ,Nat.mul_assoc]
 have h2:=Nat.mod_add_div (nth X k+nth Y k+cr) 65536
 have h3:65536^k*(nth X k+nth Y k+cr)=65536^k*((nth X k+nth Y k+cr)%65536)+65536^k*(65536*((nth X k+nth Y k+cr)/65536)):=by rw[←Nat.mul_add,h2]
 rw[Nat.mul_add,Nat.mul_add]at h3
 omega
theorem Qx {X Y os:List Nat}{k br br' d:Nat}(hl:os.length=k) (h:vl 65536 os+vl 65536 (Y.take k)=vl 65536 (X.take k)+65536^k*br) (hd:d+nth Y k+br=nth X k+65536*br'):
  vl 65536 (os++[d])+vl 65536 (Y.take (k+1))=vl 65536 (X.take (k+1))+65536^(k+1)*br':=by
 rw[oB,bZ,bZ,hl,Nat.pow_succ,Nat.mul_assoc]
 have h3:65536^k*(d+nth Y k+br)=65536^k*(nth X k+65536*br'):=by rw[hd]
 rw[Nat.mul_add,Nat.mul_add,Nat.mul_add]at h3
 omega
theorem UV {a b:Nat}(h:¬((a:Int)-(b:Int)).sign<0):b≤a:=by
 rcases Nat.lt_or_ge a b with h1 | h1
 ·exact absurd (by rw[Int.sign_eq_neg_one_of_neg (by omega)];omega) h
 exact h1
theorem UW {a b:Nat}(h:((a:Int)-(b:Int)).sign<0):a<b:=by
 rcases Nat.lt_or_ge a b with h1 | h1
 ·exact h1
 exact absurd (Int.sign_neg_iff.1 h) (by omega)
theorem Mk {X Y:List Nat}{k:Nat}(hX:Lim 65536 X) (hk:∀j,k+1≤j→nth X j=nth Y j) (h:nth X k<nth Y k):vl 65536 X<vl 65536 Y:=by
 have hS:∀m,vl 65536 (X.take (k+1+m))+vl 65536 (Y.take (k+1))=vl 65536 (Y.take (k+1+m))+vl 65536 (X.take (k+1)):=by
  intro m
  induction m with
  | zero=>exact Nat.add_comm _ _
  | succ m ih=>
   rw[←Nat.add_assoc,bZ 65536 X (k+1+m),bZ 65536 Y (k+1+m),hk (k+1+m) (by omega)]
   omega
 have h1:=hS (X.length+Y.length)
 rw[cH 65536 (l:=X) (k:=k+1+(X.length+Y.length)) (by omega),cH 65536 (l:=Y) (k:=k+1+(X.length+Y.length)) (by omega)]at h1
 have h2:vl 65536 (X.take (k+1))<vl 65536 (Y.take (k+1)):=by
  rw[bZ,bZ]
  have h3:=gB (hX.take k)
  have h4:65536^(X.take k).length≤65536^k:=Nat.pow_le_pow_right (by omega) (by rw[eJ];omega)
  have h5:65536^k*(nth X k+1)≤65536^k*nth Y k:=Nat.mul_le_mul_left _ h
  rw[Nat.mul_add]at h5
  omega
 omega
theorem CM {X Y:List Nat}(h:∀j,nth X j=nth Y j):vl 65536 X=vl 65536 Y:=by
 have hS:∀m,vl 65536 (X.take m)=vl 65536 (Y.take m):=by
  intro m
  induction m with
  | zero=>rfl
  | succ m ih=>rw[bZ,bZ,ih,h]
 have h1:=hS (X.length+Y.length)
 rwa[cH 65536 (l:=X) (k:=X.length+Y.length) (by omega),cH 65536 (l:=Y) (k:=X.length+Y.length) (by omega)]at h1
def fM (xs:List Nat):List Tr:=xs.map fun(n:Nat)=>.v (.int .i64 (n:Int))
def sI (o:Bool) (xs:List Nat):Tr:=.s o 3 1 xs.length (fM xs)
theorem jO (xs:List Nat):(fM xs).length=xs.length:=by simp[fM]
theorem gQ (xs:List Nat){k:Nat}(h:k<xs.length):((fM xs).drop (k*1)).take [Tr.v (.int .i64 ((nth xs k:Nat):Int))].length=[Tr.v (.int .i64 ((nth xs k:Nat):Int))]:=by
 rw[Nat.mul_one]
 have:(fM xs)[k]? =some (Tr.v (.int .i64 ((nth xs k:Nat):Int))):=by simp[fM,eV h,h]
 rw[List.length_singleton,List.take_one]
 simp[this]
theorem jP (xs ys:List Nat):(fM xs).map AV.t++(fM ys).map .t=(fM (xs++ys)).map .t:=by simp[fM]
theorem Qy (xs ys:List Nat):(aJ xs).map AV.t++(aJ ys).map .t=(aJ (xs++ys)).map .t:=by simp[aJ]
theorem CN (xs:List Nat) (k:Nat):(fM xs).take (k*1)=fM (xs.take k):=by simp[fM,List.map_take]
theorem CO {xs:List Nat}{m:Nat}(h:m≤xs.length):FV.one (.t (.s false 3 1 m ((fM xs).take (m*1))))=.one (.t (sI false (xs.take m))):=by
 rw[CN]
 unfold sI
 rw[eJ,Nat.min_eq_left h]
theorem UX (xs:List Nat):gU ((fM xs).map .t)=true:=by
 induction xs with
 | nil=>rfl
 | cons x xs ih=>simpa[fM,gU,rA]using ih
theorem IM (xs:List Nat):fJ ((fM xs).map .t)=true:=by
 induction xs with
 | nil=>rfl
 | cons x xs ih=>simpa[fM,fJ,lone]using ih
theorem jG (a b:Nat):Int.tmod (a:Int) (b:Int)=((a%b:Nat):Int):=by
 rw[Int.tmod_eq_emod_of_nonneg (by omega)]
 rfl
theorem gX (a b:Nat):Int.tdiv (a:Int) (b:Int)=((a/b:Nat):Int):=by
 rw[Int.tdiv_eq_ediv_of_nonneg (by omega)]
 rfl
theorem jQ {k:IntKind}{a:Nat}(b:Nat) (hb:b≠0) (h:jJ k (a:Int)):(b:Int)≠0∧jJ k (Int.tdiv (a:Int) (b:Int)):=by
 refine⟨by omega,?_⟩
 rw[gX]
 have:=Nat.div_le_self a b
 generalize a/b=c at this⊢
 cases k <;> simp only[jJ]at h⊢ <;> omega
section
variable {x:Cx}{g:Nat→FV}{ob:List (Option Ob)}
theorem Cq {i k n:Nat}{zs zs':List Nat}(hi:Nat.blt i x.n=true) (hg:g i=.one (.sl k 0 n)) (ho:cT ob k=some ⟨3,1,(fM zs).map .t⟩) (hn:n=zs.length) (he:zs=zs'):Sub x g ob (bH g i (.one (.t (sI false zs')))) (ob.set k none):=by
 subst he
 have:=fz hi hg ho (by rw[jO,hn,Nat.mul_one])
 rw[hn]at this
 exact this
theorem fzU {i k n:Nat}{zs zs':List Nat}(hi:Nat.blt i x.n=true) (hg:g i=.one (.sl k 0 n)) (ho:cT ob k=some ⟨113,1,(aJ zs).map .t⟩) (hn:n=zs.length) (he:zs=zs'):Sub x g ob (bH g i (.one (.t (sU false zs')))) (ob.set k none):=by
 subst he
 have:=fz hi hg ho (by rw[gK,hn,Nat.mul_one])
 rw[hn]at this
 exact this
theorem pI {τ:List Nat}{a:Option Ob}{xs ys:List Nat}{l:List AV}(h1:a=some ⟨3,1,l⟩) (h:l=(fM ys).map .t) (he:ys=xs):Cg τ a ⟨3,1,(fM xs).map .t⟩:=aB (by rw[h1,h,he])
theorem CP {τ:List Nat}{a:Option Ob}{xs ys:List Nat}{l:List AV}(h1:a=some ⟨113,1,l⟩) (h:l=(aJ ys).map .t) (he:ys=xs):Cg τ a ⟨113,1,(aJ xs).map .t⟩:=aB (by rw[h1,h,he])
end
section
variable {l:List Nat}{k N:Nat}{z:Int}{xs:List Nat}{neg:Bool}
theorem Gf (hr:eC neg xs=false):fG neg xs=0:=by simp[fG,hr]
theorem pJ (h:xs.length=0):eC neg xs= !neg:=by
 rw[List.length_eq_zero_iff]at h
 subst h
 simp[eC]
theorem yA {n:Nat}(hn:xs.length=n) (h:0<n):eC neg xs=decide (((nth xs (n-1):Nat):Int)≠0):=by
 subst hn
 rcases xs with _ | ⟨x,l⟩
 ·simp at h
 simp only[eC,List.isEmpty_cons,Bool.false_and,Bool.not_false,Bool.true_and,Bool.false_or]
 by_cases h0:nth (x::l) ((x::l).length-1)=0
 ·rw[h0];rfl
 rw[bne_iff_ne.2 h0,decide_eq_true (by omega)]
theorem Vt (k:Int):cG (!(aL k)) k.natAbs=-k:=by
 unfold cG aL
 by_cases h:k<0 <;> simp[h] <;> omega
theorem Jj {xs ys:List Nat}(hx:Lim 4294967296 xs) (hy:Lim 4294967296 ys):(dg 4294967296 (vl 4294967296 xs+vl 4294967296 ys)).length≤xs.length+ys.length+1:=by
 refine dR (by omega) ?_
 have h1:=gB hx
 have h2:=gB hy
 have h3:4294967296^xs.length≤4294967296^(xs.length+ys.length):=Nat.pow_le_pow_right (by omega) (by omega)
 have h4:4294967296^ys.length≤4294967296^(xs.length+ys.length):=Nat.pow_le_pow_right (by omega) (by omega)
 rw[Nat.pow_succ]
 omega
theorem Vu {xs ys:List Nat}(hx:Lim 4294967296 xs):(dg 4294967296 (vl 4294967296 xs-vl 4294967296 ys)).length≤xs.length:=dR (by omega) (Nat.lt_of_le_of_lt (Nat.sub_le _ _) (gB hx))
theorem OO {xs ys:List Nat}(hx:Lim 4294967296 xs) (hy:Lim 4294967296 ys):(dg 4294967296 (vl 4294967296 xs*vl 4294967296 ys)).length≤xs.length+ys.length:=by
 refine dR (by omega) ?_
 rw[Nat.pow_add]
 exact Nat.mul_lt_mul'' (gB hx) (gB hy)
theorem bX (k:Int):vl 4294967296 (dg 4294967296 k.natAbs)=k.natAbs:=cV (by omega) _
theorem kG {a b:Nat}(h:a≤b):(dg 4294967296 a).length≤(dg 4294967296 b).length:=dX (by omega) h
theorem mD (k k':Int):(dg 4294967296 (k+k').natAbs).length≤(dg 4294967296 k.natAbs).length+(dg 4294967296 k'.natAbs).length+1:=by
 have h:=Jj (aU (B:=4294967296) (by omega) k.natAbs) (aU (B:=4294967296) (by omega) k'.natAbs)
 rw[bX,bX]at h
 exact Nat.le_trans (kG (by omega)) h
theorem Qz (k k':Int):(dg 4294967296 (k-k').natAbs).length≤(dg 4294967296 k.natAbs).length+(dg 4294967296 k'.natAbs).length+1:=by
 have h:=mD k (-k')
 rw[Int.natAbs_neg]at h
 exact h
theorem gJ (k k':Int):(dg 4294967296 (k*k').natAbs).length≤(dg 4294967296 k.natAbs).length+(dg 4294967296 k'.natAbs).length:=by
 rw[Int.natAbs_mul]
 have h:=OO (aU (B:=4294967296) (by omega) k.natAbs) (aU (B:=4294967296) (by omega) k'.natAbs)
 rwa[bX,bX]at h
theorem mC (k:Int):(dg 4294967296 (-(k)).natAbs).length=(dg 4294967296 k.natAbs).length:=by rw[Int.natAbs_neg]
theorem IN {n:Int}(h1:-9223372036854775808≤n) (h2:n≤9223372036854775807):-4294967295≤Int.tmod n 4294967296∧Int.tmod n 4294967296≤4294967295∧-2147483648≤Int.tdiv n 4294967296∧Int.tdiv n 4294967296≤2147483648∧(Int.tmod n 4294967296).natAbs+4294967296*(Int.tdiv n 4294967296).natAbs=n.natAbs∧True:=by
 obtain⟨m,hm⟩:∃m:Nat,n.natAbs=m:=⟨_,rfl⟩
 rw[hm]
 rcases(show n=m∨n=-(m:Int) by omega)with h | h
 ·subst h
  have e1:Int.tmod (m:Int) 4294967296=((m%4294967296:Nat):Int):=by rw[Int.tmod_eq_emod_of_nonneg (by omega)];omega
  have e2:Int.tdiv (m:Int) 4294967296=((m/4294967296:Nat):Int):=by rw[Int.tdiv_eq_ediv_of_nonneg (by omega)];omega
  rw[e1,e2]
  exact⟨by omega,by omega,by omega,by omega,by rw[Int.natAbs_natCast,Int.natAbs_natCast];omega,trivial⟩
 subst h
 have e1:Int.tmod (-(m:Int)) 4294967296=-((m%4294967296:Nat):Int):=by rw[Int.neg_tmod,Int.tmod_eq_emod_of_nonneg (by omega)];omega
 have e2:Int.tdiv (-(m:Int)) 4294967296=-((m/4294967296:Nat):Int):=by rw[Int.neg_tdiv,Int.tdiv_eq_ediv_of_nonneg (by omega)];omega
 rw[e1,e2]
 exact⟨by omega,by omega,by omega,by omega,by rw[Int.natAbs_neg,Int.natAbs_neg,Int.natAbs_natCast,Int.natAbs_natCast];omega,trivial⟩
theorem UY {n:Int}{a b:Nat}(h:a+4294967296*b=n.natAbs):cG (decide (n<0)) (vl 4294967296 [a,b])=n:=by
 have e:vl 4294967296 [a,b]=n.natAbs:=by simp[vl];omega
 rw[e]
 exact Qs n
theorem Le {k k':Int}{s:Bool}(h:s=aL k) (h':aL k=aL k'):cG s (k.natAbs+k'.natAbs)=k+k':=by
 subst h
 unfold aL at*
 unfold cG
 by_cases h1:k<0 <;> by_cases h2:k'<0 <;> simp[h1,h2]at h'⊢ <;> omega
theorem Vv {k k':Int}{s:Bool}(h:s=aL k) (h':aL k≠aL k') (hl:¬k.natAbs<k'.natAbs):cG s (k.natAbs-k'.natAbs)=k+k':=by
 subst h
 unfold aL at*
 unfold cG
 by_cases h1:k<0 <;> by_cases h2:k'<0 <;> simp[h1,h2]at h'⊢ <;> omega
theorem Vx {k k':Int}{s:Bool}(h:s=aL k') (h':aL k≠aL k') (hl:k.natAbs<k'.natAbs):cG s (k'.natAbs-k.natAbs)=k+k':=by
 subst h
 unfold aL at*
 unfold cG
 by_cases h1:k<0 <;> by_cases h2:k'<0 <;> simp[h1,h2]at h'⊢ <;> omega
theorem Yi {X os:List Nat}{k q:Nat}{a:Nat}(hk:0<k) (hkx:k≤X.length) (hos:os.length=X.length){v r:Nat}(h:vl 65536 (X.drop k)=v*vl 65536 (os.drop k)+r) (ha:a=nth X (k-1)) (hq:q=(a+65536*r)/v):
  vl 65536 (X.drop (k-1))=v*vl 65536 ((os.set (k-1) q).drop (k-1))+(a+65536*r-q*v):=by
 obtain⟨j,rfl⟩:∃j,k=j+1:=⟨k-1,by omega⟩
 simp only[Nat.add_sub_cancel]at*
 have e1:X.drop j=nth X j::X.drop (j+1):=by rw[List.drop_eq_getElem_cons (by omega),eV (by omega)]
 have e2:(os.set j q).drop j=q::os.drop (j+1):=by
  rw[List.drop_eq_getElem_cons (by rw[List.length_set];omega),List.getElem_set_self,List.drop_set_of_lt (by omega)]
 have h2:q*v≤a+65536*r:=by rw[hq];exact Nat.div_mul_le_self _ _
 rw[e1,e2,iD,iD,h,Nat.mul_add,Nat.mul_add,Nat.mul_comm v q,Nat.mul_left_comm v 65536,←ha]
 omega
theorem Ad {xs ys:List Nat}(hx:Lim 65536 xs) (hy:Lim 65536 ys):(dg 65536 (vl 65536 xs*vl 65536 ys)).length≤xs.length+ys.length:=by
 refine dR (by omega) ?_
 rw[Nat.pow_add]
 exact Nat.mul_lt_mul'' (gB hx) (gB hy)
theorem IP {u v n m:Nat}(hn:(dg 65536 u).length=n) (hm:(dg 65536 v).length=m) (h:n≠m):decide ((n:Int)<(m:Int))=decide (u<v):=by
 have e1:=cV (B:=65536) (by omega) u
 have e2:=cV (B:=65536) (by omega) v
 rcases Nat.lt_or_gt_of_ne h with h1 | h1
 ·have h2:=jZ (B:=65536) (a:=dg 65536 u) (b:=dg 65536 v) (by omega) (aU (by omega) u) (uX (by omega) v) (by omega)
  rw[decide_eq_true (by omega),decide_eq_true (by omega)]
 have h2:=jZ (B:=65536) (a:=dg 65536 v) (b:=dg 65536 u) (by omega) (aU (by omega) v) (uX (by omega) u) (by omega)
 rw[decide_eq_false (by omega),decide_eq_false (by omega)]
theorem OP {u v k:Nat}(hag:∀j,k+1≤j→nth (dg 65536 u) j=nth (dg 65536 v) j) (h:nth (dg 65536 u) k≠nth (dg 65536 v) k):decide (((nth (dg 65536 u) k:Nat):Int)<((nth (dg 65536 v) k:Nat):Int))=decide (u<v):=by
 have e1:=cV (B:=65536) (by omega) u
 have e2:=cV (B:=65536) (by omega) v
 rcases Nat.lt_or_gt_of_ne h with h1 | h1
 ·have h2:=Mk (aU (by omega) u) hag h1
  rw[decide_eq_true (by omega),decide_eq_true (by omega)]
 have h2:=Mk (aU (by omega) v) (fun j hj=>(hag j hj).symm) h1
 rw[decide_eq_false (by omega),decide_eq_false (by omega)]
theorem uJ {X Y os:List Nat}{n k br br' d:Nat}(hl:os.length=k) (h:vl 65536 os+n*vl 65536 (Y.take k)=vl 65536 (X.take k)+65536^k*br) (hd:d+n*nth Y k+br=nth X k+65536*br'):
  vl 65536 (os++[d])+n*vl 65536 (Y.take (k+1))=vl 65536 (X.take (k+1))+65536^(k+1)*br':=by
 rw[oB,bZ,bZ,hl,Nat.pow_succ,Nat.mul_assoc,Nat.mul_add,Nat.mul_left_comm n]
 have h3:65536^k*(d+n*nth Y k+br)=65536^k*(nth X k+65536*br'):=by rw[hd]
 rw[Nat.mul_add,Nat.mul_add,Nat.mul_add]at h3
 omega
theorem IQ {u v n k br ln:Nat}{os:List Nat}(hx:(dg 65536 u).length=ln) (hk:os.length=ln) (hol:Lim 65536 os) (h:vl 65536 os+n*vl 65536 ((dg 65536 v).take k)=vl 65536 ((dg 65536 u).take k)+65536^k*br) (hnv:n*v≤u) (hkk:k=ln:=by omega):vl 65536 os=u-n*v:=by
 have h1:=gB hol
 rw[cH 65536 (l:=dg 65536 u) (by omega),cV (by omega)]at h
 have h2:n*vl 65536 ((dg 65536 v).take k)=n*v:=by
  rcases Nat.eq_zero_or_pos n with h0 | h0
  ·rw[h0,Nat.zero_mul,Nat.zero_mul]
  have h3:v≤u:=Nat.le_trans (Nat.le_mul_of_pos_left v h0) hnv
  have h4:=dX (B:=65536) (by omega) h3
  rw[cH 65536 (l:=dg 65536 v) (by omega),cV (by omega)]
 rw[h2]at h
 rcases Nat.eq_zero_or_pos br with h0 | h0
 ·rw[h0,Nat.mul_zero]at h
  omega
 have h5:65536^k*1≤65536^k*br:=Nat.mul_le_mul_left _ h0
 rw[hk,←hkk]at h1
 omega
theorem CQ {u v lo hi:Nat}(h1:lo*v≤u) (h2:u<hi*v) (h:hi=lo+1):u/v=lo:=by
 subst h
 have hv:0<v:=by
  rcases Nat.eq_zero_or_pos v with h0 | h0
  ·subst h0;simp at h2
  exact h0
 exact(Nat.div_eq_iff hv).2 (by rw[Nat.add_mul]at h2;omega)
theorem Ae {a r:Nat}(ha:a<65536):trim ([a]++dg 65536 r)=dg 65536 (a+65536*r):=
 Lu (by omega) (Lim.cons ha (aU (by omega) r)) (by show a+65536*vl 65536 (dg 65536 r)=_;rw[cV (by omega)])
theorem IR {a r v:Nat}(ha:a<65536) (hr:r<v):(dg 65536 (a+65536*r)).length≤(dg 65536 v).length+1:=by
 rw[←Ae ha]
 refine Nat.le_trans (dP _) ?_
 have:=dX (B:=65536) (by omega) (Nat.le_of_lt hr)
 simp only[fE,List.length_cons,List.length_nil]
 omega
theorem Ra {l:List Nat}{j v:Nat}(h:j<l.length):nth (l.set j v) j=v:=by simp[nth,h]
theorem CS {u v r q:Nat}(h:u=v*q+r) (hr:r<v):q=u/v∧r=u%v:=by
 subst h
 rw[Nat.mul_add_div (by omega),Nat.div_eq_of_lt hr,Nat.mul_add_mod,Nat.mod_eq_of_lt hr]
 exact⟨rfl,rfl⟩
theorem OQ {x y:Int}(hx:x.sign≠0) (h:x.sign≠y.sign) (hy:y≠0):(x<0∧0<y)∨(0<x∧y<0):=by
 rcases Int.lt_trichotomy x 0 with h1 | h1 | h1
 ·rcases Int.lt_trichotomy y 0 with h2 | h2 | h2
  ·rw[Int.sign_eq_neg_one_of_neg h1,Int.sign_eq_neg_one_of_neg h2]at h;exact absurd rfl h
  ·exact absurd h2 hy
  exact .inl ⟨h1,h2⟩
 ·rw[h1]at hx;exact absurd rfl hx
 rcases Int.lt_trichotomy y 0 with h2 | h2 | h2
 ·exact .inr ⟨h1,h2⟩
 ·exact absurd h2 hy
 rw[Int.sign_eq_one_of_pos h1,Int.sign_eq_one_of_pos h2]at h;exact absurd rfl h
theorem OT {x y:Int}(h:x.sign=0∨x.sign=y.sign) (hy:y≠0):x=0∨(x<0∧y<0)∨(0<x∧0<y):=by
 rcases Int.lt_trichotomy x 0 with h1 | h1 | h1
 ·rw[Int.sign_eq_neg_one_of_neg h1]at h
  rcases Int.lt_trichotomy y 0 with h2 | h2 | h2
  ·exact .inr (.inl ⟨h1,h2⟩)
  ·exact absurd h2 hy
  rw[Int.sign_eq_one_of_pos h2]at h;omega
 ·exact .inl h1
 rw[Int.sign_eq_one_of_pos h1]at h
 rcases Int.lt_trichotomy y 0 with h2 | h2 | h2
 ·rw[Int.sign_eq_neg_one_of_neg h2]at h;omega
 ·exact absurd h2 hy
 exact .inr (.inr ⟨h1,h2⟩)
theorem LE {a b:Int}(h0:b≠0):cG (aL a) (a.natAbs%b.natAbs)+b*cG (aL a != aL b) (a.natAbs/b.natAbs)=a∧(cG (aL a) (a.natAbs%b.natAbs)).natAbs<b.natAbs:=by
 have e:=Nat.div_add_mod a.natAbs b.natAbs
 have l:=Nat.mod_lt a.natAbs (show 0<b.natAbs by omega)
 refine⟨?_,by rw[kT];exact l⟩
 generalize a.natAbs/b.natAbs=q at*
 generalize a.natAbs%b.natAbs=r at*
 have e2:(b.natAbs:Int)*q+r=a.natAbs:=by exact_mod_cast e
 by_cases hb:b<0 <;> by_cases ha:a<0
 ·rw[show(b.natAbs:Int)=-b by omega,show(a.natAbs:Int)=-a by omega,Int.neg_mul]at e2
  simp[cG,aL,hb,ha];omega
 ·rw[show(b.natAbs:Int)=-b by omega,show(a.natAbs:Int)=a by omega,Int.neg_mul]at e2
  simp[cG,aL,hb,ha,Int.mul_neg];omega
 ·rw[show(b.natAbs:Int)=b by omega,show(a.natAbs:Int)=-a by omega]at e2
  simp[cG,aL,hb,ha,Int.mul_neg];omega
 rw[show(b.natAbs:Int)=b by omega,show(a.natAbs:Int)=a by omega]at e2
 simp[cG,aL,hb,ha];omega
theorem OU {a b r q:Int}(h0:b≠0) (hr:r=cG (aL a) (a.natAbs%b.natAbs)) (hq:q=cG (aL a != aL b) (a.natAbs/b.natAbs)) (h1:r.sign≠0) (h2:r.sign≠b.sign):q-1=a.fdiv b∧r+b=a.fmod b:=by
 obtain⟨h3,h4⟩:=LE (a:=a) h0
 rw[←hr]at h3 h4
 rw[←hq]at h3
 have h5:=OQ h1 h2 h0
 have h6:=Lb (a:=a) (b:=b) (q:=q-1) (r:=r+b) h0 (by rw[Int.mul_sub,Int.mul_one];omega) (by omega) (by omega)
 exact⟨h6.1.symm,h6.2.symm⟩
theorem Vy {a b r q:Int}(h0:b≠0) (hr:r=cG (aL a) (a.natAbs%b.natAbs)) (hq:q=cG (aL a != aL b) (a.natAbs/b.natAbs)) (h:r.sign=0∨r.sign=b.sign):q=a.fdiv b∧r=a.fmod b:=by
 obtain⟨h3,h4⟩:=LE (a:=a) h0
 rw[←hr]at h3 h4
 rw[←hq]at h3
 have h5:=OT h h0
 have h6:=Lb (a:=a) (b:=b) (q:=q) (r:=r) h0 h3 (by omega) (by omega)
 exact⟨h6.1.symm,h6.2.symm⟩
theorem St {k:Int}(h:(dg 4294967296 k.natAbs).length=0):k.natAbs=0:=(gY (by omega)).1 (List.length_eq_zero_iff.1 h)
theorem CT {k:Int}(h:(dg 4294967296 k.natAbs).length≠0):k≠0:=by
 intro h0
 subst h0
 exact h (by rw[show Int.natAbs 0=0 from rfl,pO];rfl)
def mL (l:List Nat) (k N:Nat):List Nat:=lb (l.take k)++List.replicate (N-(k+1)/2) 0
theorem IS:mL l 0 N=List.replicate N 0:=by simp[mL,lb]
theorem OV (hN:N=(l.length+1)/2) (h:l.length≤k):mL l k N=lb l:=by
 unfold mL
 rw[fF h,show N-(k+1)/2=0 by omega]
 simp
theorem OW (hN:N=(l.length+1)/2) (hk:k≤l.length):(mL l k N).length=N:=by
 unfold mL
 rw[fE,List.length_replicate,kE,eJ,Nat.min_eq_left hk]
 omega
theorem Cd:∀{l:List Nat}{j:Nat},2*j<l.length→lb (l.take (2*j+1))=lb (l.take (2*j))++[nth l (2*j)]
 | [],_,h=>by simp at h
 | [a],0,_=>by simp[lb,nth]
 | [a],j+1,h=>by simp at h
 | a::b::l,0,_=>by simp[lb,nth]
 | a::b::l,j+1,h=>by
  have ih:=Cd (l:=l) (j:=j) (by simp at h;omega)
  have e2:2*(j+1)=2*j+1+1:=by omega
  rw[e2,List.take_succ_cons,List.take_succ_cons,List.take_succ_cons,List.take_succ_cons]
  simp only[lb,List.cons_append]
  rw[ih]
  simp[nth]
theorem Vz {α:Type}(A R:List α) (x y:α){j:Nat}(h:A.length=j):(A++x::R).set j y=A++y::R:=by
 subst h
 rw[List.set_append_right _ _ (bC _),Nat.sub_self]
 rfl
theorem OX (A R:List Nat) (x:Nat){j:Nat}(h:A.length=j):nth (A++x::R) j=x:=by
 subst h
 simp[nth]
theorem IT (hN:N=(l.length+1)/2) (hk:k<l.length) (he:k%2=0):(mL l k N).set (k/2) (nth l k)=mL l (k+1) N:=by
 obtain⟨j,rfl⟩:∃j,k=2*j:=⟨k/2,by omega⟩
 have hA:(lb (l.take (2*j))).length=j:=by rw[kE,eJ,Nat.min_eq_left (by omega)];omega
 unfold mL
 rw[show 2*j/2=j by omega,show N-(2*j+1)/2=(N-(2*j+1+1)/2)+1 by omega,List.replicate_succ,Vz _ _ _ _ hA,Cd hk,List.append_assoc]
 rfl
theorem Cr (hN:N=(l.length+1)/2) (hk:k<l.length) (ho:k%2=1):nth (mL l k N) (k/2)=nth l (k-1):=by
 obtain⟨j,rfl⟩:∃j,k=2*j+1:=⟨k/2,by omega⟩
 have hA:(lb (l.take (2*j))).length=j:=by rw[kE,eJ,Nat.min_eq_left (by omega)];omega
 unfold mL
 rw[show(2*j+1)/2=j by omega,Cd (by omega),List.append_assoc]
 exact OX _ _ _ hA
theorem OY (hN:N=(l.length+1)/2) (hk:k<l.length) (ho:k%2=1):(mL l k N).set (k/2) (nth (mL l k N) (k/2)+65536*nth l k)=mL l (k+1) N:=by
 rw[Cr hN hk ho]
 obtain⟨j,rfl⟩:∃j,k=2*j+1:=⟨k/2,by omega⟩
 have hA:(lb (l.take (2*j))).length=j:=by rw[kE,eJ,Nat.min_eq_left (by omega)];omega
 unfold mL
 rw[show(2*j+1)/2=j by omega,Cd (by omega),List.append_assoc,show 2*j+1+1=2*(j+1) by omega,Cc (by omega),List.append_assoc,show 2*j+1-1=2*j by omega]
 rw[show N-(2*(j+1))/2=N-(2*(j+1)+1)/2 by omega]
 exact Vz _ _ _ _ hA
theorem UZ {l:List Nat}{j v:Nat}:j<l.length→vl 65536 (l.set j v)+65536^j*nth l j=vl 65536 l+65536^j*v:=by
 induction l generalizing j with
 | nil=>intro h;simp at h
 | cons x l ih=>
  intro h
  rcases j with _ | j
  ·simp[nth,iD];omega
  have:=ih (j:=j) (by simpa using h)
  simp only[List.set_cons_succ,iD]
  rw[Nat.pow_succ,show nth (x::l) (j+1)=nth l j by simp[nth],Nat.mul_comm (65536^j) 65536,Nat.mul_assoc,Nat.mul_assoc]
  omega
theorem rX {os a b:List Nat}{i k cr x:Nat}(hj:i+k<os.length) (h:vl 65536 os+65536^(i+k)*cr=vl 65536 (a.take i)*vl 65536 b+65536^i*(nth a i*vl 65536 (b.take k))) (hx:x=nth os (i+k)+cr+nth a i*nth b k):
  vl 65536 (os.set (i+k) (x%65536))+65536^(i+(k+1))*(x/65536)=vl 65536 (a.take i)*vl 65536 b+65536^i*(nth a i*vl 65536 (b.take (k+1))):=by
 have h1:=UZ (v:=x%65536) hj
 have h2:=Nat.mod_add_div x 65536
 have h3:65536^(i+k)*x=65536^(i+k)*(x%65536)+65536^(i+k)*(65536*(x/65536)):=by rw[←Nat.mul_add,h2]
 have h4:65536^(i+k)*x=65536^(i+k)*nth os (i+k)+65536^(i+k)*cr+65536^(i+k)*(nth a i*nth b k):=by rw[hx,Nat.mul_add,Nat.mul_add]
 rw[bZ,Nat.mul_add,Nat.mul_add,show i+(k+1)=i+k+1 by omega,Nat.pow_succ,Nat.mul_assoc]
 have h5:65536^i*(nth a i*(65536^k*nth b k))=65536^(i+k)*(nth a i*nth b k):=by
  rw[Nat.pow_add,Nat.mul_left_comm (nth a i),Nat.mul_assoc]
 omega
theorem Gg {a b:List Nat}{i k:Nat}(hk:b.length≤k):vl 65536 (a.take i)*vl 65536 b+65536^i*(nth a i*vl 65536 (b.take k))=vl 65536 (a.take (i+1))*vl 65536 b:=by
 rw[cH 65536 hk,bZ,Nat.add_mul,Nat.mul_assoc]
theorem Rb {os a b:List Nat}{i k cr:Nat}(ha:Lim 65536 a) (hb:Lim 65536 b) (hi:i<a.length) (hk:k≤b.length+1) (h:vl 65536 os+65536^(i+k)*cr=vl 65536 (a.take i)*vl 65536 b+65536^i*(nth a i*vl 65536 (b.take k))) (hc:0<cr):k≤b.length:=by
 rcases Nat.lt_or_ge b.length k with h1 | h1
 ·exfalso
  rw[Gg (by omega)]at h
  have h2:=gB (ha.take (i+1))
  have h3:=gB hb
  have h4:vl 65536 (a.take (i+1))*vl 65536 b<65536^(a.take (i+1)).length*65536^b.length:=Nat.mul_lt_mul'' h2 h3
  rw[←Nat.pow_add,eJ,Nat.min_eq_left (by omega),show i+1+b.length=i+k by omega]at h4
  have h5:65536^(i+k)*1≤65536^(i+k)*cr:=Nat.mul_le_mul_left _ hc
  omega
 exact h1
end
theorem OZ {k k':Int}(h:aL k=true) (h':aL k'=false):(-1:Int)=(k-k').sign:=by
 unfold aL at h h'
 simp at h h'
 rw[Int.sign_eq_neg_one_of_neg (by omega)]
theorem PA {k k':Int}(h:aL k=false) (h':aL k'=true):(1:Int)=(k-k').sign:=by
 unfold aL at h h'
 simp at h h'
 rw[Int.sign_eq_one_of_pos (by omega)]
theorem PB {k k':Int}(h:aL k=true) (h':aL k'=true):(((k'.natAbs:Nat):Int)-((k.natAbs:Nat):Int)).sign=(k-k').sign:=by
 unfold aL at h h'
 simp at h h'
 rw[show((k'.natAbs:Nat):Int)-((k.natAbs:Nat):Int)=k-k' by omega]
theorem PC {k k':Int}(h:aL k=false) (h':aL k'=false):(((k.natAbs:Nat):Int)-((k'.natAbs:Nat):Int)).sign=(k-k').sign:=by
 unfold aL at h h'
 simp at h h'
 rw[show((k.natAbs:Nat):Int)-((k'.natAbs:Nat):Int)=k-k' by omega]
theorem pK (v:Nat):(dg 4294967296 v).length≤(dg 65536 v).length:=by
 rw[←Cb,kE]
 omega
theorem Rc (xs:List Nat){k:Nat}(h:k<xs.length):((fM xs).map AV.t)[0+k*1]? =some (tv (.int .i64 ((nth xs k:Nat):Int))):=by simp[fM,eV h,h,tv]
theorem VA (xs:List Nat){k:Nat}(h:k<xs.length):((aJ xs).map AV.t)[0+k*1]? =some (tv (.int .u32 ((nth xs k:Nat):Int))):=by simp[aJ,eV h,h,tv]
theorem wL (xs:List Nat){k v:Nat}(h:k<xs.length):eT ((fM xs).map AV.t) (0+k*1) [tv (.int .i64 (v:Int))]=(fM (xs.set k v)).map .t:=by
 rw[Nat.zero_add,Nat.mul_one,List.set_eq_take_append_cons_drop,if_pos h]
 simp[eT,fM,tv,List.map_take,List.map_drop]
theorem Bg (xs:List Nat){k v:Nat}(h:k<xs.length):eT ((aJ xs).map AV.t) (0+k*1) [tv (.int .u32 (v:Int))]=(aJ (xs.set k v)).map .t:=by
 rw[Nat.zero_add,Nat.mul_one,List.set_eq_take_append_cons_drop,if_pos h]
 simp[eT,aJ,tv,List.map_take,List.map_drop]
theorem Af (xs:List Nat){k:Nat}{a:AV}(h:k<xs.length):0+k*1+[a].length≤((fM xs).map AV.t).length:=by simp[fM];omega
theorem Fe (xs:List Nat){k:Nat}{a:AV}(h:k<xs.length):0+k*1+[a].length≤((aJ xs).map AV.t).length:=by simp[aJ];omega
theorem Re (m:Nat):(List.replicate m (Value.int .i64 0)).map tv=(fM (List.replicate m 0)).map .t:=by simp[fM,tv]
theorem IU (m:Nat):(List.replicate m (Value.int .u32 0)).map tv=(aJ (List.replicate m 0)).map .t:=by simp[aJ,tv]
structure Zi where
 s:Bool
 x:List Nat
def Zi.of (k:Int):Zi:=⟨aL k,dg 4294967296 k.natAbs⟩
def gF (a:Zi):FV:=.agg (([.v (.bool a.s),sU false a.x]:List Tr).map .t)
def kF (k:Int):FV:=.agg (([.v (.bool (aL k)),sU false (dg 4294967296 k.natAbs)]:List Tr).map .t)
def kO (k:Int):FV:=.agg (([.v (.bool (aL k)),sU true (dg 4294967296 k.natAbs)]:List Tr).map .t)
def Zn (a:Zi) (k:Int):Prop:=Lim 4294967296 a.x∧a.x.length≤137438953472∧fG a.s a.x=k
theorem Zn.of {k:Int}(h:(dg 4294967296 k.natAbs).length≤137438953472):Zn (.of k) k:=⟨aU (by omega) _,h,zY k⟩
theorem zn0:Zn ⟨false,[]⟩ 0:=⟨Lim.nil,by simp,rfl⟩
theorem Zn.len {a:Zi}{k:Int}(h:Zn a k):(dg 4294967296 k.natAbs).length≤137438953472:=by
 obtain⟨h1,h2,rfl⟩:=h
 exact Nat.le_trans (By h1) h2
theorem Zn.right {a:Zi}{k:Int}(h:Zn a k) (hr:eC a.s a.x=true):aL k=a.s∧dg 4294967296 k.natAbs=a.x:=by
 obtain⟨h1,h2,rfl⟩:=h
 exact⟨Bx h1 hr,sJ h1 hr⟩
theorem Zn.wrong {a:Zi}{k:Int}(h:Zn a k) (hr:eC a.s a.x=false):k=0:=by
 obtain⟨h1,h2,rfl⟩:=h
 exact Gf hr
theorem IV {a:Zi}{k:Int}(h:Zn a k) (hr:eC a.s a.x=true):gF a=kF k:=by
 obtain⟨h1,h2⟩:=h.right hr
 unfold gF kF
 rw[h1,h2]
theorem yB {b:Bool}{m:Nat}{k:Int}(h:b=aL k) (hm:m=k.natAbs):FV.agg [tv (.bool b),.t (sU true (dg 4294967296 m))]=kO k:=by subst h hm;rfl
theorem Jk:FV.agg [tv (.bool false),.t (sU false [])]=kF 0:=by
 unfold kF
 rw[show Int.natAbs 0=0 from rfl,pO]
 rfl
theorem fW (k:Int):lD (kO k):=by
 simp only[lD,kO,rD,List.map_cons,List.map_nil,mJ,uH,sU,nZ]
 exact⟨trivial,.inl ⟨trivial,gA _⟩,trivial⟩
theorem Jl (b:Bool) (m:Nat):lD (.agg (([.v (.bool b),sU true (dg 4294967296 m)]:List Tr).map .t)):=by
 simp only[lD,rD,List.map_cons,List.map_nil,mJ,uH,sU,nZ]
 exact⟨trivial,.inl ⟨trivial,gA _⟩,trivial⟩
def Qn (a:Fr4) (p:Rat):Prop:=a.ok∧a.q=p
section
variable {a:Fr4}{p q:Rat}{k k':Int}{L M:Nat}
theorem Oi (h:Qn a p):Zn ⟨a.s,a.x⟩ (fG a.s a.x):=⟨h.1.1,by have:=h.1.2.2.1;dsimp only;omega,rfl⟩
theorem zD (h:Qn a p):Zn ⟨a.t,a.y⟩ (fG a.t a.y):=⟨h.1.2.1,by have:=h.1.2.2.2;dsimp only;omega,rfl⟩
theorem oR (h:Sz L p) (hL:L≤137438953472:=by omega):Zn (.of p.num) p.num:=.of (Nat.le_trans h.1 hL)
theorem iP (h:Sz L p) (hL:L≤137438953472:=by omega):Zn ⟨false,dg 4294967296 p.den⟩ (p.den:Int):=⟨aU (by omega) _,Nat.le_trans h.2 hL,Ca p.den⟩
theorem Qn.sz (h:Qn a p):Sz 68719476736 p:=by
 obtain⟨⟨h1,h2,h3,h4⟩,rfl⟩:=h
 exact US h1 h2 h3 h4 (by omega)
theorem Qn.of (h:Sz L p) (hL:L≤68719476736:=by omega):Qn (.of p) p:=⟨⟨aU (by omega) _,aU (by omega) _,Nat.le_trans h.1 hL,Nat.le_trans h.2 hL⟩,Fr4.q_of p⟩
theorem Qn.right (h:Qn a p) (hr:bY a.s a.x a.t a.y=true):Fr4.of p=a:=by
 obtain⟨⟨l1,l2,_,_⟩,rfl⟩:=h
 obtain⟨h1,h2,h3,h4⟩:=Aa hr
 have e1:=Vp hr
 have e2:=Vq hr
 have e3:=Bx l1 h1
 have e4:=sJ l1 h1
 have e5:=Bx l2 h2
 have e6:=sJ l2 h2
 rw[←e1]at e3 e4
 rw[←e2]at e5 e6
 rw[Bz]at e5
 rw[Int.natAbs_natCast]at e6
 unfold Fr4.of Fr4.q
 rw[e3,e4,e5,e6]
theorem Qn.wrong (h:Qn a p) (hr:bY a.s a.x a.t a.y=false):p=0:=by
 obtain⟨_,rfl⟩:=h
 exact Lc hr
theorem Hg (hn:q.num=k) (hd:(q.den:Int)=k'):FV.agg [tv (.bool (aL k)),.t (sU false (dg 4294967296 k.natAbs)),tv (.bool (aL k')),.t (sU false (dg 4294967296 k'.natAbs))]=qF (.of q):=by
 subst hn hd
 have e:aL (q.den:Int)=false:=by unfold aL;exact decide_eq_false (by omega)
 rw[e]
 rfl
theorem FG (k k':Int):decide ((k-k').sign=0)=decide (k=k'):=by
 rw[decide_eq_decide,Int.sign_eq_zero_iff_zero]
 omega
theorem Hd (h0:k'≠0):(dg 4294967296 (((Int.gcd k k':Nat):Int)).natAbs).length≤(dg 4294967296 k'.natAbs).length:=by
 rw[Int.natAbs_natCast]
 exact kG (Nat.le_of_dvd (by omega) (Int.gcd_dvd_natAbs_right k k'))
theorem vK {n:Int}(h1:-9223372036854775808≤n) (h2:n≤9223372036854775807):(dg 4294967296 n.natAbs).length≤2:=dR (by omega) (by omega)
theorem Ol {a b:Int}(h0:b≠0):(0<b→(Rat.divInt a b).num=a.fdiv (Int.gcd a b)∧((Rat.divInt a b).den:Int)=b.fdiv (Int.gcd a b))∧(b<0→(Rat.divInt a b).num=(-a).fdiv (Int.gcd (-a) (-b))∧((Rat.divInt a b).den:Int)=(-b).fdiv (Int.gcd (-a) (-b))):=by
 refine⟨fun h=>qJ h,fun h=>?_⟩
 rw[←Rat.neg_divInt_neg]
 exact qJ (by omega)
theorem Ey {a b:Int}(h:b≠0):((Int.gcd a b:Nat):Int)≠0:=by
 have:=Int.gcd_pos_of_ne_zero_right a h
 omega
theorem Tw (n:Nat):decide ((n:Int)=1)=(n==1):=by
 by_cases h:n=1
 ·subst h;rfl
 rw[beq_eq_false_iff_ne.2 h,decide_eq_false (by omega)]
end
theorem Ce {α:Type}{f:α→List Tr}{z:Nat}(hf:∀x,(f x).length=z):∀{xs:List α}{k:Nat}{x:α},xs[k]? =some x→((xs.flatMap f).drop (k*z)).take z=f x
 | [],_,_,h=>by simp at h
 | y::xs,0,x,h=>by
  simp at h
  subst h
  rw[Nat.zero_mul,List.drop_zero,List.flatMap_cons,List.take_append_of_le_length (by rw[hf];exact bC _),fF (by rw[hf];exact bC _)]
 | y::xs,k+1,x,h=>by
  rw[List.getElem?_cons_succ]at h
  have e:(f y++xs.flatMap f).drop z=xs.flatMap f:=by rw[←hf y];simp
  rw[List.flatMap_cons,Nat.succ_mul,Nat.add_comm,←List.drop_drop,e]
  exact Ce hf h
theorem bE {α:Type}{f:α→List Tr}{z:Nat}(hf:∀x,(f x).length=z):∀(xs:List α),(xs.flatMap f).length=xs.length*z
 | []=>by simp
 | y::xs=>by rw[List.flatMap_cons,fE,hf,bE hf xs,List.length_cons,Nat.succ_mul,Nat.add_comm]
theorem Rf {α:Type}{f:α→List Tr}{z o m:Nat}(hf:∀x,(f x).length=z){xs:List α}{k:Nat}{x:α}(h:xs[k]? =some x) (hm:o+m≤z):((xs.flatMap f).drop (k*z+o)).take m=((f x).drop o).take m:=by
 have e:=Ce hf h
 rw[←List.drop_drop,←e,List.drop_take,List.take_take,Nat.min_eq_left (by omega)]
section
variable {α:Type}{f:α→List Tr}{z:Nat}{xs:List α}{k o:Nat}{x x' y:α}{us:List Tr}
theorem aI (hf:∀x,(f x).length=z) (h:xs[k]? =some x) (hm:o+us.length≤z) (hu:((f x).drop o).take us.length=us):((xs.flatMap f).drop (k*z+o)).take us.length=us:=by
 rw[Rf hf h hm]
 exact hu
theorem fU (hf:∀x,(f x).length=z) (h:xs[k]? =some x) (hm:o+us.length≤z) (hu:((f x).drop o).take us.length=us):(((xs.flatMap f).map AV.t).drop (0+k*z+o)).take (us.map AV.t).length=us.map .t:=by
 rw[←List.map_drop,←List.map_take,Nat.zero_add,dB,aI hf h hm hu]
end
def lV:List Rat→Rat | []=>0 | a::l=>aO a l
def nilF:Fr4:=⟨false,[],false,[]⟩
def cM (xs:List Fr4) (k:Nat):Fr4:=xs.getD k nilF
theorem wU {xs:List Fr4}{k:Nat}(h:k<xs.length):xs[k]? =some (cM xs k):=by simp[cM,h]
theorem eE {xs:List Fr4}{k:Nat}(h:k<xs.length):cM xs k∈xs:=List.mem_of_getElem? (wU h)
def sQ (o:Bool) (xs:List Fr4):Tr:=.s o 52 4 xs.length (xs.flatMap (Fr4.tr o))
theorem fL (xs:List Fr4){k:Nat}(h:k<xs.length):((xs.flatMap (Fr4.tr false)).drop (k*4)).take ((cM xs k).tr false).length=(cM xs k).tr false:=Ce (f:=Fr4.tr false) (fun _=>rfl) (wU h)
section
variable {xs:List Fr4}{k:Nat}
theorem oS (h:k<xs.length):(xs.take (k+1)).map Fr4.q=(xs.take k).map Fr4.q++[(cM xs k).q]:=by rw[List.take_add_one,wU h];simp
theorem Ke (h:0<xs.length):lV ((xs.take 1).map Fr4.q)=(cM xs 0).q:=by
 rw[oS h]
 simp[lV,aO]
theorem Fc (h1:1≤k) (h:k<xs.length):lV ((xs.take (k+1)).map Fr4.q)=if(cM xs k).q<lV ((xs.take k).map Fr4.q)then(cM xs k).q else lV ((xs.take k).map Fr4.q):=by
 rw[oS h]
 rcases e:(xs.take k).map Fr4.q with _ | ⟨a,l⟩
 ·have:=congrArg List.length e
  simp at this
  rcases this with h2 | h2
  ·omega
  subst h2;simp at h
 show List.foldl _ a (l++[_])=_
 rw[List.foldl_append]
 rfl
theorem AM (p q:Rat):(p-q).num.sign<0↔p<q:=by simpa using Tq q p
end
def cZ (o:Bool) (x:Int×Rat):List Tr:=.v (.int .i64 x.1)::(Fr4.of x.2).tr o
def aH (vs:List (Int×Rat)) (k:Nat):Int×Rat:=vs.getD k (0,0)
section
variable {vs:List (Int×Rat)}{k:Nat}
theorem yC (h:k<vs.length):vs[k]? =some (aH vs k):=by simp[aH,h]
theorem nP (h:k<vs.length):aH vs k∈vs:=List.mem_of_getElem? (yC h)
theorem lY (h:k<vs.length):vs.take (k+1)=vs.take k++[aH vs k]:=by rw[List.take_add_one,yC h];rfl
theorem vH (o:Bool) (h:k<vs.length):((vs.flatMap (cZ o)).drop (k*5)).take (cZ o (aH vs k)).length=cZ o (aH vs k):=Ce (f:=cZ o) (fun _=>rfl) (yC h)
theorem YM (o:Bool) (h:k<vs.length):((vs.flatMap (cZ o)).drop (k*5+1)).take ((Fr4.of (aH vs k).2).tr o).length=(Fr4.of (aH vs k).2).tr o:=Rf (f:=cZ o) (o:=1) (m:=4) (fun _=>rfl) (yC h) (by omega)
def sV (t:Nat) (o:Bool) (vs:List (Int×Rat)):Tr:=.s o t 5 vs.length (vs.flatMap (cZ o))
theorem bL (o:Bool) (vs:List (Int×Rat)):(vs.flatMap (cZ o)).length=vs.length*5:=bE (f:=cZ o) (z:=5) (fun _=>rfl) vs
end
def fD (l:List Rat):Rat:=l.foldl (· + ·) 0
theorem Kk (l:List Rat) (q:Rat):fD (l++[q])=fD l+q:=by simp[fD]
theorem ZD (vs:List (Int×Rat)):gU ((vs.flatMap (cZ false)).map .t)=true:=by
 induction vs with
 | nil=>rfl
 | cons x vs ih=>simpa[cZ,Fr4.tr,sU,gU,rA]using ih
theorem RG (vs:List (Int×Rat)):fJ ((vs.flatMap (cZ false)).map .t)=true:=by
 induction vs with
 | nil=>rfl
 | cons x vs ih=>simpa[cZ,Fr4.tr,sU,fJ,lone]using ih
def eX (right:Bool) (q:Rat) (y last:Int) (pt:Bool):Int:=
 if !right then 2 else if decide (q.num.sign<0)then 2 else if pt&&decide (y≤last)then 4 else 0
def lP (e:Int) (q:Rat) (y:Int) (l:List (Int×Rat)):List (Int×Rat):=if e=0 then(if decide (0<q.num.sign)then l++[(y,q)]else l)else l
def zA (e:Int) (y last:Int):Int:=if e=0 then y else last
def zB (e:Int) (pt:Bool):Bool:=if e=0 then true else pt
def oO (_:Int) (q:Rat):Bool:=decide (q.num.sign=0)
theorem pW {N:Nat}{p:Rat}{l:List Rat}(hp:Sz N p) (h:∀q∈l,Sz N q):Sz N (aO p l):=by
 rcases IJ p l with h1 | h1
 ·rw[h1];exact hp
 exact h _ h1
def vR (q:Rat):Nat:=max (dg 4294967296 q.num.natAbs).length (dg 4294967296 q.den).length
theorem nB {L:Nat}{q:Rat}:Sz L q↔vR q≤L:=by
 unfold Sz vR
 omega
def wt (q:Rat):Nat:=vR q+1
def gS (l:List Rat):Nat:=(l.map wt).sum
theorem Hu {l:List Rat}{q:Rat}(h:q∈l):wt q≤gS l:=by
 unfold gS
 induction l with
 | nil=>cases h
 | cons x l ih=>
  rw[List.map_cons,List.sum_cons]
  rcases List.mem_cons.1 h with rfl | h
  ·omega
  have:=ih h;omega
theorem rU (a b:List Rat):gS (a++b)=gS a+gS b:=by simp[gS]
theorem Ud {a b:List Rat}(h:List.Sublist a b):gS a≤gS b:=by
 induction h with
 | slnil=>omega
 | cons x h ih=>simp only[gS,List.map_cons,List.sum_cons]at ih⊢;omega
 | cons_cons x h ih=>simp only[gS,List.map_cons,List.sum_cons]at ih⊢;omega
theorem Wc:wt 0≤2:=by
 have h:=vC (z:=0) (by omega) (by omega)
 have h1:vR (0:Rat)=1:=by
  unfold vR
  rw[show(0:Rat).num=0 from rfl,show(0:Rat).den=1 from rfl]
  have e1:(dg 4294967296 (Int.natAbs 0)).length=0:=by rw[show Int.natAbs 0=0 from rfl,Jg];rfl
  have e2:(dg 4294967296 1).length=1:=by
   rw[yP (by omega) (by omega)]
   rw[show 1/4294967296=0 by omega,Jg]
   rfl
  rw[e1,e2]
  rfl
 unfold wt
 omega
theorem CU (p q:Rat):wt (p-q)≤wt p+wt q:=by
 have h:=kD (nB.2 (bC (vR p))) (nB.2 (bC (vR q)))
 have:=nB.1 h
 unfold wt
 omega
theorem IW (v m:Rat):aO v [m]=if m<v then m else v:=rfl
theorem CV (v m:Rat):wt (v-aO v [m])+wt (m-aO v [m])≤wt v+wt m+2:=by
 rw[IW]
 split
 ·rw[show m-m=0 by grind]
  have:=Wc
  have:=CU v m
  omega
 rw[show v-v=0 by grind]
 have:=Wc
 have:=CU m v
 omega
def kU (fr:Int) (s:List (Int×Rat)×List (Int×Rat)×Rat) (x:Int×Rat):List (Int×Rat)×List (Int×Rat)×Rat:=
 if decide (fr≤x.1)&&decide (0<s.2.2.num.sign)then(s.1++[(x.1,x.2-aO x.2 [s.2.2])],s.2.1++[(x.1,aO x.2 [s.2.2])],s.2.2-aO x.2 [s.2.2])else(s.1++[x],s.2.1,s.2.2)
def aX (fr:Int) (l:List (Int×Rat)) (p:Rat):List (Int×Rat)×List (Int×Rat)×Rat:=l.foldl (kU fr) ([],[],p)
theorem qD {fr:Int}{s:List (Int×Rat)×List (Int×Rat)×Rat}{y:Int}{q:Rat}(h1:fr≤y) (h2:0<s.2.2.num.sign):
  kU fr s (y,q)=(s.1++[(y,q-aO q [s.2.2])],s.2.1++[(y,aO q [s.2.2])],s.2.2-aO q [s.2.2]):=by
 unfold kU
 rw[if_pos (by simp only[Bool.and_eq_true,decide_eq_true_eq];exact⟨h1,h2⟩)]
theorem oJ {fr:Int}{s:List (Int×Rat)×List (Int×Rat)×Rat}{x:Int×Rat}(h:¬(fr≤x.1∧0<s.2.2.num.sign)):kU fr s x=(s.1++[x],s.2.1,s.2.2):=by
 unfold kU
 rw[if_neg (by simp only[Bool.and_eq_true,decide_eq_true_eq];exact h)]
theorem xI (fr:Int) (l:List (Int×Rat)) (p:Rat):(aX fr l p).1.length=l.length:=by
 have key:∀(l:List (Int×Rat)) s,(l.foldl (kU fr) s).1.length=s.1.length+l.length:=by
  intro l
  induction l with
  | nil=>intro s;simp
  | cons x l ih=>
   intro s
   rw[List.foldl_cons,ih]
   unfold kU
   split <;> simp <;> omega
 have:=key l ([],[],p)
 simpa[aX]using this
theorem iT (q:Rat):0<q.num.sign↔0<q:=by
 rw[Int.sign_pos_iff,←gt_iff_lt,Rat.lt_iff]
 simp
theorem Ue (v m:Rat):wt (m-aO v [m])≤wt v+wt m+2:=by have:=CV v m;omega
section
variable {f:FuncId}{args:List FV}
theorem uK {xs:List Nat}(h:∀(N:Nat→Prop) (w:World) us,eG w N [] args us→(∀b,N b→b<w.heap.size)→Calls Tryz.prog f us.toArray w (pE xs w)):aE true Tryz.prog f [] args (aT (.one (.t (sU true xs)))):=by
 intro N w cs us hL
 obtain⟨rfl,hf⟩:=Ac hL
 refine(h _ w us hf (fun b hb=>hb.1)).mono ?_
 rintro e W ⟨A,n,c,rfl,ho,hb⟩
 obtain⟨y1,a1,a2,a3,a4⟩:=Ab (N:=fun b=>true=false∧(b<W.heap.size∧b∉VT.fpL [])∧(N b∨w.heap.size≤b)) ho
 refine .mk0 (y:=[y1]) rfl hb (by simp only[VT.okL];exact⟨a3,trivial⟩) ?_ (fun b hb'=>?_) ?_
 ·simp only[VT.fpL,a4,List.append_nil]
  cases A <;> simp[Value.ownBlock]
 ·simp only[VT.fpL,a4,List.append_nil]at hb'
  exact ho.blk b hb'
 exact⟨y1,rfl,a1.symm,lL (fun _ _=>rfl) (fun b hb=>absurd hb.1 (by simp)) _ _ a2⟩
variable {xs ys:List Nat}
theorem mM {W:World}{N:Nat→Prop}{v:Value}(h:cD W N [] (.one (.t (sU false xs))) v) (hl:Lim 4294967296 xs) (hN:∀b,N b→b<W.heap.size):∃A c,v=.slice A xs.length c∧U32 W W.heap.size A xs.length c xs:=by
 simp only[cD,AR]at h
 obtain⟨A,c,rfl,l⟩:=Ji h hl
 exact⟨A,c,rfl,l.u32 hN⟩
theorem Wd (hx:Lim 4294967296 xs) (h:xs.length≤1099511627776):aE true Tryz.prog 118 [] [.one (.t (sU false xs))] (aT (.one (.t (sU true xs)))):=uK fun N w us hf hN=>by
 obtain⟨u,rfl,h1⟩:=IL hf
 obtain⟨A,c,rfl,u1⟩:=mM h1 hx hN
 exact sG A _ c xs w u1 h
theorem YN (hx:Lim 4294967296 xs) (hy:Lim 4294967296 ys):aE true Tryz.prog 140 [] [.one (.t (sU false xs)),.one (.t (sU false ys))] (aT (.one (tv (.int .i64 (pF (vl 4294967296 xs) (vl 4294967296 ys)))))):=IK fun N w us hf hN=>by
 obtain⟨u,v,rfl,h1,h2⟩:=Qv hf
 obtain⟨A,c,rfl,u1⟩:=mM h1 hx hN
 obtain⟨B,d,rfl,u2⟩:=mM h2 hy hN
 exact(tJ A B _ _ c d xs ys _ w u1 u2).mono fun e W ⟨he,k,hk⟩=>⟨he,hk▸iK (Below.refl _ _) k⟩
theorem LF (hx:Lim 4294967296 xs) (hy:Lim 4294967296 ys) (h:xs.length≤1099511627776) (h':ys.length≤1099511627776):aE true Tryz.prog 139 [] [.one (.t (sU false xs)),.one (.t (sU false ys))] (aT (.one (.t (sU true (dg 4294967296 (vl 4294967296 xs+vl 4294967296 ys)))))):=uK fun N w us hf hN=>by
 obtain⟨u,v,rfl,h1,h2⟩:=Qv hf
 obtain⟨A,c,rfl,u1⟩:=mM h1 hx hN
 obtain⟨B,d,rfl,u2⟩:=mM h2 hy hN
 exact IC A B _ _ c d xs ys w u1 u2 h h'
theorem YO (hx:Lim 4294967296 xs) (hy:Lim 4294967296 ys) (h:xs.length≤549755813888) (h':ys.length≤549755813888):aE true Tryz.prog 84 [] [.one (.t (sU false xs)),.one (.t (sU false ys))] (aT (.one (.t (sU true (dg 4294967296 (vl 4294967296 xs*vl 4294967296 ys)))))):=uK fun N w us hf hN=>by
 obtain⟨u,v,rfl,h1,h2⟩:=Qv hf
 obtain⟨A,c,rfl,u1⟩:=mM h1 hx hN
 obtain⟨B,d,rfl,u2⟩:=mM h2 hy hN
 exact OC A B _ _ c d xs ys w u1 u2 h h'
theorem IX {W:World}{N:Nat→Prop}{t:Nat}{v:Value}(h:cD W N [] (.one (.t (.s false t 1 2 [sU false xs,sU false ys]))) v) (hx:Lim 4294967296 xs) (hy:Lim 4294967296 ys) (hN:∀b,N b→b<W.heap.size):∃A c,v=.slice A 2 c∧URows W W.heap.size A 2 c [xs,ys]:=by
 simp only[cD,AR,FR]at h
 obtain⟨A,c,rfl,h1,h2,_,h4⟩:=h
 rcases h4 with h4 | ⟨ad,rfl,h5,h6⟩
 ·omega
 obtain⟨u0,e0,f0⟩:=pQ h6 (j:=0) rfl
 obtain⟨u1,e1,f1⟩:=pQ h6 (j:=1) rfl
 obtain⟨A0,c0,rfl,l0⟩:=Ji f0 hx
 obtain⟨A1,c1,rfl,l1⟩:=Ji f1 hy
 rw[Nat.zero_add]at e0 e1
 refine⟨_,c,rfl,rfl,h1,h2,fun k hk=>?_⟩
 obtain⟨b,o,sp⟩:=ad
 match k,hk with
 | 0,_=>exact⟨b,o,sp,A0,_,c0,rfl,hN _ h5,e0,l0.u32 hN⟩
 | 1,_=>exact⟨b,o,sp,A1,_,c1,rfl,hN _ h5,e1,l1.u32 hN⟩
theorem YP {t:Nat}(hx:Lim 4294967296 xs) (hy:Lim 4294967296 ys) (h:xs.length≤549755813888) (h':ys.length≤549755813888):aE true Tryz.prog 123 [] [.one (.t (.s false t 1 2 [sU false xs,sU false ys]))] (aT (.one (.t (sU true (dg 4294967296 (tK [xs,ys])))))):=uK fun N w us hf hN=>by
 obtain⟨u,rfl,h1⟩:=IL hf
 obtain⟨A,c,rfl,u1⟩:=IX h1 hx hy hN
 exact OJ A 2 c [xs,ys] w u1 (by omega) (fun k hk=>by match k,hk with | 0,_=>exact h | 1,_=>exact h')
theorem Gh (A:Option Addr) (n c:Nat):((Value.slice A n c).ownBlock.toList).Nodup:=by cases A <;> simp[Value.ownBlock]
theorem Yj (hx:Lim 4294967296 xs) (hy:Lim 4294967296 ys) (h:xs.length≤1099511627776) (hle:vl 4294967296 ys≤vl 4294967296 xs):aE true Tryz.prog 141 [] [.one (.t (sU false xs)),.one (.t (sU false ys))] (aT (.tup [.one (.t (sU true (dg 4294967296 (vl 4294967296 xs-vl 4294967296 ys)))),.one (tv (.int .i64 0))])):=by
 intro N w cs us hL
 obtain⟨rfl,hf⟩:=Ac hL
 obtain⟨u,v,rfl,h1,h2⟩:=Qv hf
 obtain⟨A,c,rfl,u1⟩:=mM h1 hx fun b hb=>hb.1
 obtain⟨B,d,rfl,u2⟩:=mM h2 hy fun b hb=>hb.1
 refine(ID A B _ _ c d xs ys w u1 u2 h hle).mono ?_
 rintro e W ⟨A,n,c,rfl,ho,hb⟩
 obtain⟨y1,a1,a2,a3,a4⟩:=Ab (N:=fun b=>true=false∧(b<W.heap.size∧b∉VT.fpL [])∧(N b∨w.heap.size≤b)) ho
 refine .mk0 (y:=[y1,.w (.int .i64 0)]) rfl hb (by simp only[VT.okL,VT.ok];exact⟨a3,trivial,trivial⟩) ?_ (fun b hb'=>?_) ?_
 ·simp only[VT.fpL,VT.fp,a4,List.append_nil]
  exact Gh A n c
 ·simp only[VT.fpL,VT.fp,a4,List.append_nil]at hb'
  exact ho.blk b hb'
 refine⟨[_,_],rfl,?_⟩
 exact⟨_,_,[y1],[.w (.int .i64 0)],rfl,rfl,⟨y1,rfl,a1.symm,lL (fun _ _=>rfl) (fun b hb=>absurd hb.1 (by simp)) _ _ a2⟩,_,_,[.w (.int .i64 0)],[],rfl,rfl,⟨_,rfl,rfl,by simp[CR,tv,OR]⟩,rfl,rfl⟩
theorem IY (hx:Lim 4294967296 xs) (hy:Lim 4294967296 ys) (h:xs.length≤549755813888) (h':ys.length≤549755813888) (h0:vl 4294967296 ys≠0):aE true Tryz.prog 142 [] [.one (.t (sU false xs)),.one (.t (sU false ys))] (aT (.tup [.one (.t (sU true (dg 4294967296 (vl 4294967296 xs/vl 4294967296 ys)))),.one (.t (sU true (dg 4294967296 (vl 4294967296 xs%vl 4294967296 ys)))),.one (tv (.int .i64 0))])):=by
 intro N w cs us hL
 obtain⟨rfl,hf⟩:=Ac hL
 obtain⟨u,v,rfl,h1,h2⟩:=Qv hf
 obtain⟨A,c,rfl,u1⟩:=mM h1 hx fun b hb=>hb.1
 obtain⟨B,d,rfl,u2⟩:=mM h2 hy fun b hb=>hb.1
 refine(Gc A B _ _ c d xs ys w u1 u2 h h' h0).mono ?_
 rintro e W ⟨A1,n1,c1,A2,n2,c2,rfl,ho,ho2,hap,hb⟩
 obtain⟨y1,a1,a2,a3,a4⟩:=Ab (N:=fun b=>true=false∧(b<W.heap.size∧b∉VT.fpL [])∧(N b∨w.heap.size≤b)) ho
 obtain⟨y2,b1,b2,b3,b4⟩:=Ab (N:=fun b=>true=false∧(b<W.heap.size∧b∉VT.fpL [])∧(N b∨w.heap.size≤b)) ho2
 refine .mk0 (y:=[y1,y2,.w (.int .i64 0)]) rfl hb (by simp only[VT.okL,VT.ok];exact⟨a3,b3,trivial,trivial⟩) ?_ (fun b hb'=>?_) ?_
 ·simp only[VT.fpL,VT.fp,a4,b4,List.append_nil]
  rw[List.nodup_append]
  refine⟨Gh ..,Gh ..,fun x hx y hy e=>?_⟩
  subst e
  rcases A1 with _ | a
  ·simp[Value.ownBlock]at hx
  rcases A2 with _ | b
  ·simp[Value.ownBlock]at hy
  simp[Value.ownBlock]at hx hy
  exact hap a b rfl rfl (by rw[←hx,←hy])
 ·simp only[VT.fpL,VT.fp,a4,b4,List.append_nil]at hb'
  rcases List.mem_append.1 hb' with hb' | hb'
  ·exact ho.blk b hb'
  exact ho2.blk b hb'
 refine⟨[_,_,_],rfl,?_⟩
 exact⟨_,_,[y1],[y2,.w (.int .i64 0)],rfl,rfl,⟨y1,rfl,a1.symm,lL (fun _ _=>rfl) (fun b hb=>absurd hb.1 (by simp)) _ _ a2⟩,_,_,[y2],[.w (.int .i64 0)],rfl,rfl,⟨y2,rfl,b1.symm,lL (fun _ _=>rfl) (fun b hb=>absurd hb.1 (by simp)) _ _ b2⟩,_,_,[.w (.int .i64 0)],[],rfl,rfl,⟨_,rfl,rfl,by simp[CR,tv,OR]⟩,rfl,rfl⟩
end
def IZ (P:Program) (t n:Nat):Prop:=∃e,P.underlying t=some (.array n e)∧Ty1 P e
section
variable {P:Program}{w:World}{ρ:Operand→Value}{d:Option Nat}{ty:TypeId}{pos:String}{af:Array Edge}{gd:Option (Nat×Bool)}
theorem CW {t n:Nat}{z us:List Value}{parts:Array (Nat×Operand)}{ps:List (Nat×Value)}(hT:IZ P t n) (hZ:TyZ P t z) (hps:(parts.map fun x=>(x.1,ρ x.2))=ps.toArray) (hf:kA (fun i=>some (i*1,1)) z ps=some us):
  (execOp ρ ⟨d,.build t parts,ty,pos,af,gd⟩).run P w=.ok (.value (.agg us.toArray)) w:=by
 obtain⟨e,e1,hu⟩:=hT
 obtain⟨dd,i',h8,h9,h10,h11⟩:=hu
 obtain⟨i,v,h3,h4,h5⟩:=hZ
 have hf':=Ak _ ps z us hf
 simp only[Nat.mul_one]at hf'
 have hps':(parts.map fun(x:Nat×Operand)=>match x with | (i,x)=>(i,ρ x))=ps.toArray:=hps
 simp[execOp,Instr.build,zeroValue,sizeOf,typeInfo,h3,h4,run_underlying e1,hps',h5,h10,h11,hf']
end
def yD:List AV→List (Nat×FV)→Option (List AV)
 | l,[]=>some l
 | l,(i,.one a)::r=>match lone a&&Nat.blt i l.length with
  | true=>yD (l.set i a) r
  | false=>none
 | _,_=>none
section
variable {W:World}{N:Nat→Prop}{cs:List Co}
theorem We {a:AV}{u:Value}(ha:AR W N cs a u):∀{l:List AV}{us:List Value}{p:Nat},ARL W N cs l us→ARL W N cs (l.set p a) (us.set p u)
 | [],us,p,h=>by
  simp only[ARL]at h
  subst h
  simp[ARL]
 | b::l,[],p,h=>by simp only[ARL]at h
 | b::l,z::us,0,h=>by
  simp only[ARL]at h
  simp only[List.set_cons_zero,ARL]
  exact⟨ha,h.2⟩
 | b::l,z::us,p+1,h=>by
  simp only[ARL]at h
  simp only[List.set_cons_succ,ARL]
  exact⟨h.1,We ha h.2⟩
theorem Wf:∀{ps:List (Nat×FV)}{vs:List (Nat×Value)}{l l':List AV}{us:List Value},ARL W N cs l us→yD l ps=some l'→ps.length=vs.length→
  (∀(j:Nat) (p:Nat×FV) (q:Nat×Value),ps[j]? =some p→vs[j]? =some q→p.1=q.1∧bO W N cs p.2 q.2)→∃us',ARL W N cs l' us'∧kA (fun i=>some (i*1,1)) us vs=some us'
 | [],vs,l,l',us,hc,h,hl,_=>by
  obtain rfl:vs=[]:=List.eq_nil_of_length_eq_zero hl.symm
  simp only[yD,Option.some.injEq]at h
  subst h
  exact⟨us,hc,rfl⟩
 | (i,fv)::ps,vs,l,l',us,hc,h,hl,hp=>by
  obtain⟨⟨i',u⟩,vs,rfl⟩:∃q vs',vs=q::vs':=by
   cases vs with
   | nil=>simp at hl
   | cons q vs=>exact⟨q,vs,rfl⟩
  obtain⟨e0,h0⟩:=hp 0 _ _ rfl rfl
  dsimp only at e0 h0
  subst e0
  cases fv with
  | one a=>
   unfold yD at h
   cases hq:lone a&&Nat.blt i l.length with
   | false=>rw[hq]at h;cases h
   | true=>
    rw[hq]at h
    simp only[Bool.and_eq_true]at hq
    have hi:i<us.length:=by
     have h9:=hq.2
     rw[iR hc]
     simpa[Nat.blt,Nat.lt_iff_add_one_le]using h9
    have hu:u.cells.toList=[u]:=by rw[xO (cs:=cs) h0 hq.1]
    obtain⟨us',r1,r2⟩:=Wf (us:=us.set i u) (We h0 hc) h (by simpa using hl) (fun j p q h1 h2=>hp (j+1) p q (by simpa using h1) (by simpa using h2))
    refine⟨us',r1,?_⟩
    unfold kA
    dsimp only
    have e2:qK us (i*1) u.cells.toList=us.set i u:=by
     rw[hu,Nat.mul_one]
     unfold qK
     rw[List.set_eq_take_append_cons_drop,if_pos hi]
     simp
    have e3:(Nat.beq u.cells.toList.length 1&&Nat.ble (i*1+u.cells.toList.length) us.length)=true:=by
     rw[hu]
     simp
     omega
    rw[e2,e3]
    exact r2
  | any=>simp[yD]at h
  | agg _=>simp[yD]at h
  | tup _=>simp[yD]at h
end
section
variable {x:Cx}{g g':Nat→FV}{ob ob':List (Option Ob)}{cs cs':List Co}{ts ts':Array Value}{W W':World}{T:List (Nat×TI)}{Q:Post}{ops:Array Oper}{rest:List Oper}{d:Nat}{op:Op}{ty:TypeId}{pos:String}{af:Array Edge}{gd:Option (Nat×Bool)}{v:FV}
theorem YQ {t n:Nat}{ti:Bool}{sz:Nat}{z:List Value}{kd:TK}{ps:Array (Nat×Operand)}{l:List AV}(hT:cN x.P T) (ht:cP T t=some ⟨ti,sz,z,kd⟩) (hA:IZ x.P t n) (h:yD (z.map tv) (ps.toList.map fun p=>(p.1,lk x.n g p.2))=some l):
  OS x ⟨some d,.build t ps,ty,pos,af,gd⟩ g ob [] (fun g' ob'=>g'=bH g d (.agg l)∧ob'=ob):=BE fun cs ts W hR=>by
 have hi:=eY hT ht
 obtain⟨us',h1,h2⟩:=Wf (W:=W) (N:=x.fr W ob cs) (cs:=cs) (us:=z) (vs:=ps.toList.map fun p=>(p.1,Act.eval ⟨ts,[]⟩ p.2)) (qY z) h (by simp) (fun j p q hp hq=>by
  simp only[List.getElem?_map,Option.map_eq_some_iff]at hp hq
  obtain⟨a,ha,rfl⟩:=hp
  obtain⟨b,hb,rfl⟩:=hq
  rw[ha]at hb
  injection hb with hb
  subst hb
  exact⟨rfl,hR.lk _⟩)
 exact⟨.agg us'.toArray,fun W'=>CW hA hi.2.2.1 (ps:=ps.toList.map fun p=>(p.1,Act.eval ⟨ts,[]⟩ p.2)) (by apply Array.ext';simp only[Array.toList_map]) h2,us',rfl,h1⟩
theorem bA {t n:Nat}{ti:Bool}{sz:Nat}{z:List Value}{kd:TK}{ps:Array (Nat×Operand)}{l:List AV}(hA:IZ x.P t n) (k:WL x ops rest (bH g d (.agg l)) ob Q) (hT:cN x.P ttab:=by exact aF) (ht:cP ttab t=some ⟨ti,sz,z,kd⟩:=by rfl) (h:yD (z.map tv) (ps.toList.map fun p=>(p.1,lk x.n g p.2))=some l:=by rfl) (hw:bI ops x.n g gd=some true:=by rfl):
  WL x ops (⟨some d,.build t ps,ty,pos,af,gd⟩::rest) g ob Q:=jT (YQ hT ht hA h) hw (by rintro _ _ ⟨rfl,rfl⟩;exact k)
inductive PutL (K:List Nat):List AV→List AV→Prop
 | nil:PutL K [] []
 | sl {i k o n:Nat}{l l':List AV}(h:K[i]? =some k) (h':PutL K l l'):PutL K (.sl i o n::l) (.sl k o n::l')
variable {late:Nat→Bool}{K fr:List Nat}{on:Bool}{fuel:Nat}{listed:Array Bool}
theorem Wt {t ky o t' z':Nat}{ti:TI}{a:Operand}{l us:List AV}(i:Nat) (hx:(l.drop o).take us.length=us) (k:WD x ops Q late K (d::fr) true fuel (listed.setIfInBounds i true) (bH g d (.agg us)) ob) (hT:cN x.P ttab:=by exact aF) (hi:ops[i]? =some ⟨some d,.load t a,ty,pos,af,gd⟩:=by rfl) (hw:bI ops x.n g gd=some true:=by rfl) (hti:cP ttab t=some ti:=by rfl) (hlk:lk x.n g a=.one (.pt ky o):=by rfl) (ho:cT ob ky=some ⟨t',z',l⟩:=by rfl) (ha:ti.agg=true:=by rfl) (hn:us.length=ti.size:=by rfl) (h0:us≠[]:=by exact fun h=>by cases h) (hr:gU us=true:=by rfl):WO x ops Q late K fr true fuel listed i g ob:=
 Gy (v:=.agg us) i hi rfl hw (Xn hT hti (by rw[hlk];exact Qh ho hx ha hn h0 hr)) (by rintro _ _ ⟨rfl,rfl⟩;exact⟨rfl,fun _ _=>rfl⟩) (by rintro _ _ ⟨rfl,rfl⟩;exact k)
theorem JO {t key o t' z':Nat}{ti:TI}{a b:Operand}{l l' us:List AV}(i:Nat) (hl:eT l o us=l') (hle:o+us.length≤l.length) (k:WD x ops Q late K fr true fuel (listed.setIfInBounds i true) g (ob.set key (some ⟨t',z',l'⟩))) (hT:cN x.P ttab:=by exact aF) (hr:Region.ready .any ops listed=[i]:=by kernel_rfl) (hi:ops[i]? =some ⟨none,.store t a b,ty,pos,af,gd⟩:=by rfl) (hw:bI ops x.n g gd=some true:=by rfl) (hti:cP ttab t=some ti:=by rfl)
  (hlk:lk x.n g a=.one (.pt key o):=by rfl) (ho:cT ob key=some ⟨t',z',l⟩:=by rfl) (hb:zL (lk x.n g b)=some us:=by rfl) (hlo:fJ us=true:=by rfl) (hsz:Nat.beq us.length ti.size=true:=by rfl) (hK:K.contains key=false:=by rfl):WD x ops Q late K fr true (fuel+1) listed g ob:=by
 have hne:∀j∈K,j≠key:=fun j hj e=>by
  subst e
  have:K.contains j=true:=by simpa using hj
  rw[hK]at this
  cases this
 refine Kn i hr hi hw (Fq (ty:=ty) (pos:=pos) (af:=af) (gd:=gd) hT hti hlk hb hlo hsz ho hle hl) true (fun _=>⟨rfl,fun j hj hm=>?_⟩) (fun _=>rfl) (fun _ g' ob' hR=>?_) fun g' ob' hR=>?_
 ·rw[List.mem_singleton]at hm
  exact hne j hj hm
 ·obtain⟨rfl,rfl⟩:=hR
  exact⟨fun _ _=>rfl,fun j hj=>List.getElem?_set_ne (fun e=>hne j hj e.symm)⟩
 obtain⟨rfl,rfl⟩:=hR
 exact k
end
abbrev yV (x:Cx) (Q:Post):Post:=fun e g ob=>∃g' ob',Sub x g ob g' ob'∧Q e g' ob'
theorem WP.subQ {x:Cx}{c:Code}{g:Nat→FV}{ob:List (Option Ob)}{Q:Post}(h:WP x c g ob (yV x Q)):WP x c g ob Q:=fun ts W hR=>wp_mono (h ts W hR) fun e a w hq=>by
 cases e with
 | panic c=>exact hq
 | _=>
  obtain⟨g,ob,ts,rfl,h1,g',ob',hs,h2⟩:=hq
  exact⟨g',ob',ts,rfl,hs _ _ h1,h2⟩
theorem Pd {x:Cx}{e:Exit}{g g':Nat→FV}{ob ob':List (Option Ob)}{Q:Post}(h:Sub x g ob g' ob') (k:yV x Q e g' ob'):yV x Q e g ob:=by
 obtain⟨g2,ob2,h2,h3⟩:=k
 exact⟨g2,ob2,fun ts W hR=>h2 ts W (h ts W hR),h3⟩
theorem uR {x:Cx}{e:Exit}{g:Nat→FV}{ob:List (Option Ob)}{Q:Post}(h:Q e g ob):yV x Q e g ob:=⟨g,ob,fun _ _ h=>h,h⟩
theorem GK {T:List (Nat×TI)}{fresh:Bool}{P:Program}{f:FuncId}{fn:Func}{c:Code}{n:Nat}{rv:List ResultVar}{lent:List Lt}{args:List FV}{R:List Lt→FV→Prop}(hf:P.funcs[f]? =some fn) (hb:fn.body=some c) (hn:fn.ntmps=n) (hrv:fn.results.toList=rv) (hT:cN P T) (hle:Nat.ble args.length n=true)
  (h:∀N M w c0,c0.length=lent.length→WP ⟨P,N,M,w,n,c0⟩ c (bP (lZ 0 args)) (cB lent) (yV ⟨P,N,M,w,n,c0⟩ (rH ⟨P,N,M,w,n,c0⟩ T rv fresh lent R))):aE fresh P f lent args R:=
 qS hf hb hn hrv hT hle fun N M w c0 h0=>(h N M w c0 h0).subQ
theorem GA {T:List (Nat×TI)}{fresh:Bool}{P:Program}{f:FuncId}{fn:Func}{c:Code}{n:Nat}{rv:List ResultVar}{args:List FV}{R:List Lt→FV→Prop}(hf:P.funcs[f]? =some fn) (hb:fn.body=some c) (hn:fn.ntmps=n) (hrv:fn.results.toList=rv) (hT:cN P T) (hle:Nat.ble args.length n=true)
  (h:∀N w c0,c0.length=0→WP ⟨P,N,[],w,n,c0⟩ c (bP (lZ 0 args)) [] (yV ⟨P,N,[],w,n,c0⟩ (rH ⟨P,N,[],w,n,c0⟩ T rv fresh [] R))):aE fresh P f [] args R:=
 bV hf hb hn hrv hT hle fun N w c0 h0=>(h N w c0 h0).subQ
def VB (fresh:Bool) (N:Nat→Prop) (M:List Nat) (w:World) (R:FV→Prop) (e:Ending) (W:World):Prop:=
 ∃v r y,e=.returned v∧R r∧Loc M w W [jK y] [(TS fresh [] [] r v y).on (fun b=>N b∨b∈M∨w.heap.size≤b)]
def uL (fresh:Bool) (P:Program) (f:FuncId) (lent:List Lt) (args:List FV) (R:FV→Prop):Prop:=
 ∀(N:Nat→Prop) (w:World) (cs:List Co) (us:List Value),Loc ((aQ (cB lent) cs).flatMap Res.S) w w (aQ (cB lent) cs) [(BI lent cs args us).on N]→
  Calls P f us.toArray w (VB fresh N ((aQ (cB lent) cs).flatMap Res.S) w R)
section
variable {x:Cx}{g g':Nat→FV}{ob ob':List (Option Ob)}{cs cs':List Co}{ts ts':Array Value}{W W':World}{T:List (Nat×TI)}{Q:Post}{ops:Array Oper}{rest:List Oper}{d:Nat}{op:Op}{ty:TypeId}{pos:String}{af:Array Edge}{gd:Option (Nat×Bool)}{v:FV}
theorem Lg {fresh:Bool}{P:Program}{f:FuncId}{args:List FV}{R:FV→Prop}{lent:List Lt}:uL fresh P f lent args R↔nI fresh P f [] lent args (fun _=>R):=by
 constructor
 ·intro h N w cs us hL
  refine(h N w cs us hL).mono fun e W hE=>?_
  obtain⟨v,r,y,h1,h2,h3⟩:=hE
  exact⟨v,[],[],r,y,h1,h2,rfl,fun i a b h=>by simp at h,rfl,fun k hk=>absurd hk (Nat.not_lt_zero k),h3⟩
 intro h N w cs us hL
 refine(h N w cs us hL).mono fun e W hE=>?_
 obtain⟨v,lent',cs',r,y,h1,h2,h3,h4,h5,h6,h7⟩:=hE
 obtain rfl:=List.eq_nil_of_length_eq_zero h3
 obtain rfl:=List.eq_nil_of_length_eq_zero h5
 exact⟨v,r,y,h1,h2,h7⟩
theorem JA {fresh:Bool}{P:Program}{f:FuncId}{fn:Func}{c:Code}{lent:List Lt}{args:List FV}{R:FV→Prop}(hf:P.funcs[f]? =some fn) (hb:fn.body=some c) (T:List (Nat×TI)) (hT:cN P T) (hle:Nat.ble args.length fn.ntmps=true)
  (h:∀x:Cx,x.P=P→x.n=fn.ntmps→x.c0.length=lent.length→WP x c (bP (lZ 0 args)) (cB lent) (rH x T fn.results.toList fresh [] fun _=>R)):uL fresh P f lent args R:=Lg.2 (Dg (lent:=[]) (given:=lent) hf hb T hT hle lent.length (Nat.zero_le _) (bC _) fun x a b c _=>h x a b c)
theorem Lh:∀{K:List Nat}{cs:List Co},(∀k∈K,k<cs.length)→dS cs K (K.map (co cs))=cs
 | [],_,_=>rfl
 | k::K,cs,h=>by
  have h1:=h k (List.mem_cons_self ..)
  have h2:cs.set k (co cs k)=cs:=by
   have h3:co cs k=cs[k]:=by simp[co,h1]
   rw[h3,List.set_getElem_self]
  show dS (cs.set k (co cs k)) K (K.map (co cs))=cs
  rw[h2]
  exact Lh fun j hj=>h j (List.mem_cons_of_mem _ hj)
theorem Yk {fresh:Bool}{f:FuncId}{args:List FV}{R:FV→Prop}{lent:List Lt}{K:List Nat}{os:List Operand}{fst caps:List Tr}{fus cus:List Value}(hS:uL fresh x.P f lent (dE fst++args++dE caps) R) (hK:eQ ob K K lent) (hnd:K.Nodup) (ha:kM x.n g K os args) (hfst:FRL W (x.fr W ob cs) fst fus) (hcap:FRL W (x.fr W ob cs) caps cus) (hR:RelC x g ob cs ts W):
  Calls x.P f (fus++os.map (Act.eval ⟨ts,[]⟩)++cus).toArray W (fun e W'=>∃v r ys N2,e=.returned v∧R r∧RO W' N2 [] r v ys∧VT.okL W' ys∧(VT.fpL ys).Nodup∧
   ∀(oz:List Ob) (csn:List Co),csn.length=oz.length→(∀b,((aQ (oz.map some) csn).flatMap Res.S).count b≤(VT.fpL ys).count b)→(∀r∈aQ (oz.map some) csn,r.φ W')→
    (∀b,N2 b→x.fr W' (cE ob K (cC K)++oz.map some) (cs++csn) b)∧
    ((∀i o,oz[i]? =some o→bU W' (x.fr W' (cE ob K (cC K)++oz.map some) (cs++csn)) (cs++csn) o.l (co csn i).l∧((co csn i).b=none→o.l=[]∧o.z≠0))→
     RelC x g (cE ob K (cC K)++oz.map some) (cs++csn) ts W'∧∀d,Aft K d ob cs ts W (cE ob K (cC K)++oz.map some) (cs++csn) ts W')):=by
 have hlen:=hR.len
 have hKl:∀k∈K,k<cs.length:=fun k hk=>by
  obtain⟨i,hi⟩:=List.mem_iff_getElem?.1 hk
  obtain⟨a,l',_,_,h2⟩:=lG hK hi
  rw[←hlen]
  exact(List.getElem?_eq_some_iff.1 h2).1
 have h:=rS (lent:=[]) (given:=lent) (K1:=[]) (K2:=K) (Lg.1 hS) rfl rfl hK hnd ha hfst hcap hR
 refine h.mono fun e W' hE=>?_
 obtain⟨v,lent',r,ys,cl,N2,h1,h2,h3,h4,h5,h6,h7,h8⟩:=hE
 obtain rfl:=List.eq_nil_of_length_eq_zero h3
 obtain rfl:=List.eq_nil_of_length_eq_zero h4
 refine⟨v,r,ys,N2,h1,h2,h5,h6,h7,fun oz csn q1 q2 q3=>?_⟩
 have h9:=h8 [] rfl oz csn q1 q2 q3
 simpa only[List.nil_append,Lh hKl]using h9
theorem Rh {fresh:Bool}{f:FuncId}{args:List FV}{R:FV→Prop}{lent:List Lt}{K:List Nat}{aa:Array Operand}{ats:Array TypeId}{cf:Operand}{fst caps:List Tr}{key:Nat}(hS:uL fresh x.P f lent (dE fst++args++dE caps) R) (hf:CallOk x.P f) (hc:Tz x g cf f fst caps) (hK:eQ ob K K lent) (hnd:K.Nodup) (ha:kM x.n g K aa.toList args) (hk:eN ob key=true) (hb:∀r,R r→(kB key r).isSome=true):
  OS x ⟨some d,.call ⟨.value cf,aa,ats⟩,ty,pos,af,gd⟩ g ob K (fun g' ob'=>∃r v os,R r∧kB key r=some (v,os)∧g'=bH g d v∧ob'=cE ob K (cC K)++os.map some):=by
 intro cs ts W hR K' Q kk
 obtain⟨us0,us,e0,hfst,hcap⟩:=hc ob cs ts W hR
 unfold Oper.wp
 rw[kV hf e0]
 refine(Yk hS hK hnd ha hfst hcap hR).mono fun e W' hE=>?_
 obtain⟨v,r,ys,N2,rfl,hr,hro,hok,hndy,fin⟩:=hE
 have hb1:=hb r hr
 obtain⟨⟨v',os⟩,hbn⟩:=Option.isSome_iff_exists.1 hb1
 obtain⟨csn,e1,e2,e3,e4⟩:=yW (Lx hbn hro) hok hbn
 obtain⟨hN,hfin⟩:=fin os csn e1 (fun b=>by rw[e2];exact bC _) e3
 have hk:=Nat.eq_of_beq_eq_true hk
 have hpl:cs.length=key:=by rw[←hR.len,hk]
 obtain⟨g1,g2⟩:=e4 _ (cs++csn) hN (by simp[hpl,e1]) (fun i _=>by
  unfold co
  rw[List.getElem?_append_right (by omega),hpl,show key+i-key=i by omega])
 obtain⟨m1,m2⟩:=hfin g2
 exact kk _ _ _ _ _ ⟨r,v',os,hr,hbn,rfl,rfl⟩ (m1.put d g1) ((m2 (some d)).then_put v)
theorem cm {fresh:Bool}{f:FuncId}{lent:List Lt}{args:List FV}{r:FV}{os:List Ob}{aa:Array Operand}{ats:Array TypeId}(key:Nat) (K:List Nat) (hS:uL fresh x.P f lent args (· =r)) (hf:CallOk x.P f) (hK:eQ ob K K lent) (ha:kM x.n g K aa.toList args) (k:WL x ops rest (bH g d v) (cE ob K (cC K)++os.map some) Q) (hw:bI ops x.n g gd=some true:=by rfl) (hk:eN ob key=true:=by rfl) (hnd:K.Nodup:=by decide) (hb:kB key r=some (v,os):=by rfl):
  WL x ops (⟨some d,.call ⟨.value (.func f),aa,ats⟩,ty,pos,af,gd⟩::rest) g ob Q:=by
 have e:dE []++args++dE []=args:=by simp[dE]
 refine jT (Rh (by rw[e];exact hS) hf (tZ f) hK hnd ha hk (by rintro _ rfl;rw[hb];rfl)) hw ?_
 rintro _ _ ⟨r',v',os',rfl,h,rfl,rfl⟩
 rw[hb]at h
 injection h with h
 injection h with h1 h2
 subst h1 h2
 exact k
theorem Gi {late:Nat→Bool}{K fr:List Nat}{fuel:Nat}{listed:Array Bool}{fresh:Bool}{f:FuncId}{lent:List Lt}{args:List FV}{r:FV}{os:List Ob}{aa:Array Operand}{ats:Array TypeId}(i key:Nat) (Kl:List Nat) (hi:ops[i]? =some ⟨some d,.call ⟨.value (.func f),aa,ats⟩,ty,pos,af,gd⟩) (hS:uL fresh x.P f lent args (· =r)) (hf:CallOk x.P f) (hK:eQ ob Kl Kl lent) (ha:kM x.n g Kl aa.toList args) (hke:jA ob (cE ob Kl (cC Kl)++os.map some) K) (k:WD x ops Q late K (d::fr) true fuel (listed.setIfInBounds i true) (bH g d v) (cE ob Kl (cC Kl)++os.map some)) (hr:Region.ready .any ops listed=[i]:=by kernel_rfl) (hw:bI ops x.n g gd=some true:=by rfl) (hk:eN ob key=true:=by rfl) (hnd:Kl.Nodup:=by decide) (hdis:∀k∈K,k∉Kl:=by decide) (hb:kB key r=some (v,os):=by rfl):
  WD x ops Q late K fr true (fuel+1) listed g ob:=by
 have e:dE []++args++dE []=args:=by simp[dE]
 refine KX i hr hi rfl hw (Rh (by rw[e];exact hS) hf (tZ f) hK hnd ha hk (by rintro _ rfl;rw[hb];rfl)) hdis ?_ ?_
 ·rintro _ _ ⟨r',v',os',rfl,h,rfl,rfl⟩
  rw[hb]at h
  injection h with h
  injection h with h1 h2
  subst h1 h2
  exact⟨⟨_,rfl⟩,gN hke⟩
 rintro _ _ ⟨r',v',os',rfl,h,rfl,rfl⟩
 rw[hb]at h
 injection h with h
 injection h with h1 h2
 subst h1 h2
 exact k
theorem fnM {fresh:Bool}{P:Program}{f:FuncId}{fn:Func}{c:Code}{n:Nat}{rv:List ResultVar}{lent:List Lt}{args:List FV}{R:FV→Prop}(hf:P.funcs[f]? =some fn) (hb:fn.body=some c) (hn:fn.ntmps=n) (hrv:fn.results.toList=rv) (hT:cN P T) (hle:Nat.ble args.length n=true)
  (h:∀N M w c0,c0.length=lent.length→WP ⟨P,N,M,w,n,c0⟩ c (bP (lZ 0 args)) (cB lent) (yV ⟨P,N,M,w,n,c0⟩ (rH ⟨P,N,M,w,n,c0⟩ T rv fresh [] fun _=>R))):uL fresh P f lent args R:=by
 subst hn hrv
 refine JA hf hb T hT hle ?_
 rintro⟨P',N,M,w,n,c0⟩ rfl rfl h0
 exact(h N M w c0 h0).subQ
end
def Zg (a:Zi) (k:Int):Prop:=Lim 4294967296 a.x∧a.x.length≤300000000000∧fG a.s a.x=k
theorem Zn.g {a:Zi}{k:Int}(h:Zn a k):Zg a k:=⟨h.1,Nat.le_trans h.2.1 (by omega),h.2.2⟩
theorem Zg.of {k:Int}(h:(dg 4294967296 k.natAbs).length≤300000000000):Zg (.of k) k:=⟨aU (by omega) _,h,zY k⟩
theorem Zg.len {a:Zi}{k:Int}(h:Zg a k):(dg 4294967296 k.natAbs).length≤300000000000:=by
 obtain⟨h1,h2,rfl⟩:=h
 exact Nat.le_trans (By h1) h2
theorem Zg.wrong {a:Zi}{k:Int}(h:Zg a k) (hr:eC a.s a.x=false):k=0:=by
 obtain⟨h1,h2,rfl⟩:=h
 exact Gf hr
theorem CX {a:Zi}{k:Int}(h:Zg a k) (hr:eC a.s a.x=true):gF a=kF k:=by
 obtain⟨h1,h2,rfl⟩:=h
 unfold gF kF
 rw[Bx h1 hr,sJ h1 hr]
theorem Jm {a:Zi}{k:Int}(ha:Zg a k):aE true Tryz.prog 96 [] [gF a] (aT (.one (tv (.bool (eC a.s a.x))))):=by
 refine bV Tryz.func96 rfl Tryz.ntmps96 rfl aF rfl fun N w c0 h0=>?_
 have hal:=ha.2.1
 refine sq (rl (bx 0 ?_));refine o1 ?_;refine nl (sq (rl (o1 ?_)));refine ld ?_;refine o1 ?_;refine o1 ?_;refine nl (sq (rl ?_))
 (iterate 3 refine o1 ?_);refine WL.split (t:=9) rfl (fun h1=>?_) (fun h1=>?_)
 ·refine o1 ?_;refine ld ?_;refine WL.splitb (t:=11) rfl (fun h2=>?_) (fun h2=>?_)
  ·(iterate 6 refine o1 ?_);refine WL.split (t:=17) rfl (fun h3=>?_) (fun h3=>?_)
   ·refine o1 ?_;refine ld ?_;refine o1 ?_;refine o1 ?_;refine bB 21 (a.x.length-1) ?_
    refine o1 ?_;refine dV ([.v (.int .u32 ((nth a.x (a.x.length-1):Nat):Int))]) (oW a.x (k:=a.x.length-1) (by omega)) ?_
    (iterate 4 refine o1 ?_);refine nl (rt ?_);refine en (.inl rfl) rfl (bD (cX _)) (by decide) (fun _=>trivial) (congrArg (fun b=>FV.one (tv (.bool b))) ?_)
    rw[pJ (by omega)];simp_all
   (iterate 7 refine cY ?_);(iterate 3 refine o1 ?_);refine nl (rt ?_)
   refine en (.inl rfl) rfl (bD (cX _)) (by decide) (fun _=>trivial) (congrArg (fun b=>FV.one (tv (.bool b))) ?_)
   rw[pJ (by omega)];simp_all
  (iterate 3 refine o1 ?_);(iterate 11 refine cY ?_);refine o1 ?_;refine o1 ?_;refine nl (rt ?_)
  refine en (.inl rfl) rfl (bD (cX _)) (by decide) (fun _=>trivial) (congrArg (fun b=>FV.one (tv (.bool b))) ?_)
  rw[pJ (by omega)];simp_all
 (iterate 3 refine cY ?_);(iterate 5 refine o1 ?_);refine WL.split (t:=17) rfl (fun h4=>?_) (fun h4=>?_)
 ·refine o1 ?_;refine ld ?_;refine o1 ?_;refine o1 ?_;refine bB 21 (a.x.length-1) ?_
  refine o1 ?_;refine dV ([.v (.int .u32 ((nth a.x (a.x.length-1):Nat):Int))]) (oW a.x (k:=a.x.length-1) (by omega)) ?_
  (iterate 4 refine o1 ?_);refine nl (rt ?_);refine en (.inl rfl) rfl (bD (cX _)) (by decide) (fun _=>trivial) (congrArg (fun b=>FV.one (tv (.bool b))) ?_)
  first | exact(yA rfl (by omega)).symm | (unfold eC;simp_all;try omega)
 (iterate 7 refine cY ?_);(iterate 3 refine o1 ?_);refine nl (rt ?_)
 refine en (.inl rfl) rfl (bD (cX _)) (by decide) (fun _=>trivial) (congrArg (fun b=>FV.one (tv (.bool b))) ?_)
 first | exact(yA rfl (by omega)).symm | (unfold eC;simp_all;try omega)
theorem fA {a:Zi}{k:Int}(ha:Zg a k):aE false Tryz.prog 82 [] [gF a] (aT (kF k)):=by
 refine bV Tryz.func82 rfl Tryz.ntmps82 rfl aF rfl fun N w c0 h0=>?_
 refine sq (rl (bx 0 ?_));refine al 1 ?_;refine nl (sq (sq (rl (ld ?_))))
 refine ca (Jm ha) HW ⟨aC rfl,rfl⟩ (.one (tv (.bool (eC a.s a.x)))) ?_;refine WL.splitb (t:=4) rfl (fun h1=>?_) (fun h1=>?_)
 ·refine o1 ?_;refine nl (dW rfl (sk (sq (rl (ld ?_)))));refine o1 ?_;refine st ?_;refine nl (rt ?_)
  exact en (.inl rfl) rfl (bD (.agg (.read _ (l:=[.v (.bool a.s),sU false a.x]) rfl))) (by decide) (fun h=>by cases h) (CX ha h1)
 refine o1 ?_;refine nl (iC rfl (sq (rl (o1 ?_))));refine st ?_;refine nl (rt ?_)
 exact en (.inl rfl) rfl (bD (.agg (.cons (.id rfl) (.cons .nilf .nil)))) (by decide) (fun h=>by cases h) (by rw[ha.wrong h1];exact Jk)
theorem CY {b:Bool}{m:Nat}{K:Int}(hK:cG b m=K):aE false Tryz.prog 83 [] [.one (tv (.bool b)),.one (.t (sU false (dg 4294967296 m)))] (aT (kF K)):=by
 refine bV Tryz.func83 rfl Tryz.ntmps83 rfl aF rfl fun N w c0 h0=>?_
 refine sq (rl (al 0 ?_));refine nl (sq (rl (o1 ?_)));refine o1 ?_;refine WL.splitb (t:=6) rfl (fun h1=>?_) (fun h1=>?_)
 ·(iterate 6 refine o1 ?_);refine st ?_;refine nl (rt ?_)
  exact en (.inl rfl) rfl (bD (.agg (.cons (.id rfl) (.cons (.id rfl) .nil)))) (by decide) (fun h=>by cases h) (hK▸congrArg zS (yB (by rw[wJ,h1,Bool.true_and,←oL (m:=m) rfl];exact decide_eq_decide.2 (by omega)) (kT _ _).symm))
 (iterate 3 refine cY ?_);(iterate 3 refine o1 ?_);refine st ?_;refine nl (rt ?_)
 exact en (.inl rfl) rfl (bD (.agg (.cons (.id rfl) (.cons (.id rfl) .nil)))) (by decide) (fun h=>by cases h) (hK▸congrArg zS (yB (by rw[wJ,h1];rfl) (kT _ _).symm))
theorem jR {b:Bool}{m:Nat}{K:Int}(hK:cG b m=K):uL false Tryz.prog 83 [⟨113,1,(aJ (dg 4294967296 m)).map .t⟩] [.one (tv (.bool b)),.one (.sl 0 0 (dg 4294967296 m).length)] (· =kO K):=by
 refine fnM Tryz.func83 rfl Tryz.ntmps83 rfl aF rfl fun N M w c0 h0=>?_
 refine sq (rl (al 1 ?_));refine nl (sq (rl (o1 ?_)));refine o1 ?_;refine WL.splitb (t:=6) rfl (fun h1=>?_) (fun h1=>?_)
 ·(iterate 6 refine o1 ?_);refine st ?_;refine nl (rt ?_)
  exact uR (en (.inl rfl) rfl (bD (.agg (.cons (.id rfl) (.cons (.sl (trs:=aJ (dg 4294967296 m)) rfl rfl (bS _) (aV _)) .nil)))) (by decide) (fun h=>by cases h) (hK▸yB (by rw[wJ,h1,Bool.true_and,←oL (m:=m) rfl];exact decide_eq_decide.2 (by omega)) (kT _ _).symm))
 (iterate 3 refine cY ?_);(iterate 3 refine o1 ?_);refine st ?_;refine nl (rt ?_)
 exact uR (en (.inl rfl) rfl (bD (.agg (.cons (.id rfl) (.cons (.sl (trs:=aJ (dg 4294967296 m)) rfl rfl (bS _) (aV _)) .nil)))) (by decide) (fun h=>by cases h) (hK▸yB (by rw[wJ,h1];rfl) (kT _ _).symm))
theorem Ri {k:Int}:aE false Tryz.prog 117 [] [kF k] (aT (kF (-k))):=by
 refine bV Tryz.func117 rfl Tryz.ntmps117 rfl aF rfl fun N w c0 h0=>?_
 refine sq (rl (bx 0 ?_));refine al 1 ?_;refine nl (sq (rl (o1 ?_)));refine o1 ?_;refine ld ?_;(iterate 3 refine o1 ?_);refine ld ?_
 refine ca (CY (m:=k.natAbs) (K:=-k) (Vt k)) rJ ⟨a1 rfl,a1 rfl,rfl⟩ (kF (-k)) ?_;refine o1 ?_;refine st ?_;refine nl (rt ?_)
 exact en (.inl rfl) rfl (bD (.agg (.cons (.id rfl) (.cons (.id rfl) .nil)))) (by decide) (fun h=>by cases h) rfl
theorem LG {a:Zi}{k:Int}(ha:Zg a k):aE true Tryz.prog 86 [] [gF a] (aT (kO (-(k)))):=by
 refine bV Tryz.func86 rfl Tryz.ntmps86 rfl aF rfl fun N w c0 h0=>?_
 have hkl:=ha.len
 refine sq (rl (bx 0 ?_));refine al 1 ?_;refine nl (sq (rl (ld ?_)));refine ca (fA ha) eZ ⟨aC rfl,rfl⟩ (kF (k)) ?_
 refine ca (Ri (k:=k)) KQ ⟨aC rfl,rfl⟩ (kF (-(k))) ?_;refine al 2 ?_;refine st ?_;refine nl (sq ?_);refine cI [0,1,2] [8] ?_
 refine dv 0 ?_;refine dv 1 ?_;refine aK 2 ?_;refine dv 3 ?_;refine dv 4 ?_;refine aK 5 ?_
 refine kS 3 6 rfl (Wd (aU (by omega) _) (by have:=mC k;omega)) KR ⟨a1 rfl,rfl⟩ ?_
 refine df 7 ?_;refine dst 8 ?_;refine aW ?_;refine rt ?_
 exact en (.inl rfl) rfl (bD (.agg (.cons (.id rfl) (.cons (.sl (trs:=aJ (dg 4294967296 (-(k)).natAbs)) rfl rfl (bS _) (aV _)) .nil)))) (by decide) (fun _=>fW (-(k))) rfl
theorem YR {a:Zi}{k:Int}(ha:Zg a k):aE true Tryz.prog 87 [] [gF a] (aT (kO (((k.natAbs:Nat):Int)))):=by
 refine bV Tryz.func87 rfl Tryz.ntmps87 rfl aF rfl fun N w c0 h0=>?_
 have hkl:=ha.len
 refine sq (rl (bx 0 ?_));refine al 1 ?_;refine nl (sq (rl (ld ?_)));refine ca (fA ha) eZ ⟨aC rfl,rfl⟩ (kF (k)) ?_;refine o1 ?_;refine o1 ?_
 refine iS 2 (Wd (aU (by omega) _) (by have:=mC k;omega)) KR ⟨a1 rfl,rfl⟩ ?_
 refine o1 ?_;refine st ?_;refine nl (rt ?_)
 exact en (.inl rfl) rfl (bD (.agg (.cons (.id rfl) (.cons (.sl (trs:=aJ (dg 4294967296 k.natAbs)) rfl rfl (bS _) (aV _)) .nil)))) (by decide) (fun _=>Jl _ _) (yB (by unfold aL;simp) (by omega))
theorem CZ {k k':Int}(hk:(dg 4294967296 k.natAbs).length≤500000000000) (hk':(dg 4294967296 k'.natAbs).length≤500000000000):aE true Tryz.prog 116 [] [kF k,kF k'] (aT (kO (k+k'))):=by
 refine bV Tryz.func116 rfl Tryz.ntmps116 rfl aF rfl fun N w c0 h0=>?_
 have hal:=Jj (xs:=dg 4294967296 k.natAbs) (ys:=dg 4294967296 k'.natAbs) (aU (by omega) _) (aU (by omega) _)
 rw[bX,bX]at hal;refine sq (rl (bx 0 ?_));refine bx 1 ?_;refine al 2 ?_;refine nl (sq (sq (rl (o1 ?_))));refine o1 ?_
 refine ld ?_;refine o1 ?_;refine o1 ?_;refine ld ?_;refine o1 ?_;refine nl ?_;refine qR rfl (fun h1=>?_) (fun h1=>?_)
 ·refine sq ?_;refine cI [0,1,2] [11] ?_
  refine dv 0 ?_;refine dv 1 ?_;refine aK 2 ?_;refine dv 3 ?_;refine dv 4 ?_;refine aK 5 ?_;refine dv 6 ?_;refine dv 7 ?_;refine aK 8 ?_
  have hA:aE true Tryz.prog 139 [] [.one (.t (sU false (dg 4294967296 k.natAbs))),.one (.t (sU false (dg 4294967296 k'.natAbs)))] (aT (.one (.t (sU true (dg 4294967296 (k.natAbs+k'.natAbs)))))):=by have h9:=LF (aU (by omega) k.natAbs) (aU (by omega) k'.natAbs) (by omega) (by omega);rwa[bX,bX]at h9
  refine kS 3 9 rfl hA KT ⟨a1 rfl,a1 rfl,rfl⟩ ?_
  refine Gi 10 4 [3] rfl (jR (m:=(k.natAbs+k'.natAbs)) (K:=k+k') (Le rfl (eq_of_beq h1))) rJ ⟨aB rfl,rfl⟩ ⟨rfl,rfl,rfl⟩ ⟨rfl,rfl,rfl,trivial⟩ ?_;refine dst 11 ?_
  refine aW ?_;refine rt ?_
  exact en (.inl rfl) rfl (bD (.agg (.cons (.id rfl) (.cons (.sl (trs:=aJ (dg 4294967296 (k+k').natAbs)) rfl rfl (bS _) (aV _)) .nil)))) (by decide) (fun _=>fW (k+k')) rfl
 refine sk (sq (sq (rl (o1 ?_))));refine o1 ?_;refine ld ?_;refine o1 ?_;refine o1 ?_;refine ld ?_
 refine ca (YN (aU (by omega) _) (aU (by omega) _)) YE ⟨a1 rfl,a1 rfl,rfl⟩ (.one (tv (.int .i64 (pF (vl 4294967296 (dg 4294967296 (k).natAbs)) (vl 4294967296 (dg 4294967296 (k').natAbs)))))) ?_
 refine o1 ?_;refine nl ?_;refine bF rfl (fun h2=>?_) (fun h2=>?_)
 ·refine rl (ld ?_);refine ld ?_;refine st ?_;refine st ?_;refine nl (sq (rl (o1 ?_)));refine o1 ?_;refine ld ?_;refine o1 ?_;refine o1 ?_;refine ld ?_
  have hlt:k.natAbs<k'.natAbs:=Decidable.byContradiction fun h8=>by rw[bX,bX]at h2;rcases Nat.lt_or_ge k'.natAbs k.natAbs with h7 | h7;(rw[oK h7]at h2;omega);(rw[wG (by omega)]at h2;omega)
  have hS:aE true Tryz.prog 141 [] [.one (.t (sU false (dg 4294967296 k'.natAbs))),.one (.t (sU false (dg 4294967296 k.natAbs)))] (aT (.tup [.one (.t (sU true (dg 4294967296 (k'.natAbs-k.natAbs)))),.one (tv (.int .i64 0))])):=by have h9:=Yj (aU (by omega) k'.natAbs) (aU (by omega) k.natAbs) (by omega) (by rw[bX,bX];omega);rwa[bX,bX]at h9
  refine iS 3 hS Xx ⟨a1 rfl,a1 rfl,rfl⟩ ?_;(iterate 5 refine o1 ?_);refine nl (sq (rl (o1 ?_)));refine o1 ?_;refine ld ?_;refine o1 ?_
  refine cm 4 [3] (jR (m:=(k'.natAbs-k.natAbs)) (K:=k+k') (Vx rfl (ne_of_beq_false h1) hlt)) rJ ⟨aB rfl,rfl⟩ ⟨rfl,rfl,rfl⟩ ?_;refine st ?_;refine nl (rt ?_)
  exact en (.inl rfl) rfl (bD (.agg (.cons (.id rfl) (.cons (.sl (trs:=aJ (dg 4294967296 (k+k').natAbs)) rfl rfl (bS _) (aV _)) .nil)))) (by decide) (fun _=>fW (k+k')) rfl
 refine sk (sq (rl (o1 ?_)));refine o1 ?_;refine ld ?_;refine o1 ?_;refine o1 ?_;refine ld ?_
 have hlt:¬k.natAbs<k'.natAbs:=fun h8=>h2 (by rw[bX,bX,sH h8];omega)
 have hS:aE true Tryz.prog 141 [] [.one (.t (sU false (dg 4294967296 k.natAbs))),.one (.t (sU false (dg 4294967296 k'.natAbs)))] (aT (.tup [.one (.t (sU true (dg 4294967296 (k.natAbs-k'.natAbs)))),.one (tv (.int .i64 0))])):=by have h9:=Yj (aU (by omega) k.natAbs) (aU (by omega) k'.natAbs) (by omega) (by rw[bX,bX];omega);rwa[bX,bX]at h9
 refine iS 3 hS Xx ⟨a1 rfl,a1 rfl,rfl⟩ ?_;(iterate 5 refine o1 ?_);refine nl (sq (rl (o1 ?_)));refine o1 ?_;refine ld ?_;refine o1 ?_
 refine cm 4 [3] (jR (m:=(k.natAbs-k'.natAbs)) (K:=k+k') (Vv rfl (ne_of_beq_false h1) hlt)) rJ ⟨aB rfl,rfl⟩ ⟨rfl,rfl,rfl⟩ ?_;refine st ?_;refine nl (rt ?_)
 exact en (.inl rfl) rfl (bD (.agg (.cons (.id rfl) (.cons (.sl (trs:=aJ (dg 4294967296 (k+k').natAbs)) rfl rfl (bS _) (aV _)) .nil)))) (by decide) (fun _=>fW (k+k')) rfl
theorem LH {a b:Zi}{k k':Int}(ha:Zg a k) (hb:Zg b k'):aE true Tryz.prog 89 [] [gF a,gF b] (aT (kO (k+k'))):=by
 refine bV Tryz.func89 rfl Tryz.ntmps89 rfl aF rfl fun N w c0 h0=>?_
 have hkl:=ha.len
 have hkl':=hb.len
 refine sq (rl (bx 0 ?_));refine bx 1 ?_;refine al 2 ?_;refine nl (sq ?_);refine cI [0,1,2] [5] ?_
 refine aK 0 ?_;refine aK 2 ?_;refine aS 1 rfl (fA ha) eZ ⟨aC rfl,rfl⟩ (kF (k)) ?_;refine aS 3 rfl (fA hb) eZ ⟨aC rfl,rfl⟩ (kF (k')) ?_
 refine kS 3 4 rfl (CZ (k:=k) (k':=k') (by omega) (by omega)) KP ⟨aC rfl,aC rfl,rfl⟩ ?_
 refine dst 5 ?_;refine aW ?_;refine rt ?_
 exact en (.inl rfl) rfl (bD (.agg (.cons (.id rfl) (.cons (.sl (trs:=aJ (dg 4294967296 ((k+k')).natAbs)) rfl rfl (bS _) (aV _)) .nil)))) (by decide) (fun _=>fW ((k+k'))) rfl
theorem YS {a b:Zi}{k k':Int}(ha:Zg a k) (hb:Zg b k'):aE true Tryz.prog 81 [] [gF a,gF b] (aT (kO (k-k'))):=by
 refine bV Tryz.func81 rfl Tryz.ntmps81 rfl aF rfl fun N w c0 h0=>?_
 have hkl:=ha.len
 have hkl':=hb.len
 have hkn:=mC k'
 refine sq (rl (bx 0 ?_));refine bx 1 ?_;refine al 2 ?_;refine nl (sq ?_);refine cI [0,1,2] [6] ?_
 refine aK 0 ?_;refine aK 2 ?_;refine aS 1 rfl (fA ha) eZ ⟨aC rfl,rfl⟩ (kF (k)) ?_;refine aS 3 rfl (fA hb) eZ ⟨aC rfl,rfl⟩ (kF (k')) ?_
 refine aS 4 rfl (Ri (k:=k')) KQ ⟨aC rfl,rfl⟩ (kF (-(k'))) ?_;refine kS 3 5 rfl (CZ (k:=k) (k':=(-(k'))) (by omega) (by omega)) KP ⟨aC rfl,aC rfl,rfl⟩ ?_
 refine dst 6 ?_;refine aW ?_;refine rt ?_
 exact en (.inl rfl) rfl (bD (.agg (.cons (.id rfl) (.cons (.sl (trs:=aJ (dg 4294967296 ((k+(-(k')))).natAbs)) rfl rfl (bS _) (aV _)) .nil)))) (by decide) (fun _=>fW ((k+(-(k'))))) (by rw[Int.sub_eq_add_neg];rfl)
theorem Gj {a:Zi}{k:Int}(ha:Zg a k):aE true Tryz.prog 49 [] [gF a] (aT (.one (tv (.int .i64 k.sign)))):=by
 refine bV Tryz.func49 rfl Tryz.ntmps49 rfl aF rfl fun N w c0 h0=>?_
 refine sq (rl (bx 0 ?_));refine o1 ?_;refine nl (sq (sq (rl (ld ?_))));refine ca (fA ha) eZ ⟨aC rfl,rfl⟩ (kF (k)) ?_;refine al 1 ?_
 refine st ?_;refine nl (bl (sq (rl (o1 ?_))));refine o1 ?_;refine ld ?_;refine o1 ?_;refine nl ?_;refine qR rfl (fun h1=>?_) (fun h1=>?_)
 ·refine sq (rl (o1 ?_));refine nl (rt ?_);refine en (.inl rfl) rfl (bD (cX _)) (by decide) (fun _=>trivial) (congrArg (fun z=>FV.one (tv (.int .i64 z))) ?_)
  have h9:k<0:=of_decide_eq_true h1
  exact(Int.sign_eq_neg_one_of_neg h9).symm
 refine sq (rl (o1 ?_));refine o1 ?_;refine ld ?_;(iterate 3 refine o1 ?_);refine nl ?_;refine bF rfl (fun h2=>?_) (fun h2=>?_)
 ·refine sq (rl (o1 ?_));refine nl (rt ?_);refine en (.inl rfl) rfl (bD (cX _)) (by decide) (fun _=>trivial) (congrArg (fun z=>FV.one (tv (.int .i64 z))) ?_)
  have h9:¬k<0:=of_decide_eq_false h1
  have h8:=oL (m:=k.natAbs) rfl
  have h7:decide (0<k.natAbs)=true:=by rw[←h8];exact decide_eq_true (by omega)
  have h6:=of_decide_eq_true h7
  exact(Int.sign_eq_one_of_pos (by omega)).symm
 refine sk (sq (rl (o1 ?_)));refine nl (rt ?_)
 refine en (.inl rfl) rfl (bD (cX _)) (by decide) (fun _=>trivial) (congrArg (fun z=>FV.one (tv (.int .i64 z))) ?_)
 have h9:¬k<0:=of_decide_eq_false h1
 have h8:=oL (m:=k.natAbs) rfl
 have h7:decide (0<k.natAbs)=false:=by rw[←h8];exact decide_eq_false (by omega)
 have h6:=of_decide_eq_false h7
 obtain rfl:k=0:=by omega
 rfl
theorem Yl {a b:Zi}{k k':Int}(ha:Zg a k) (hb:Zg b k') (hs:(dg 4294967296 (k-k').natAbs).length≤300000000000):aE true Tryz.prog 47 [] [gF a,gF b] (aT (.one (tv (.int .i64 (k-k').sign)))):=by
 refine bV Tryz.func47 rfl Tryz.ntmps47 rfl aF rfl fun N w c0 h0=>?_
 have hkl:=ha.2.1;have hkl2:=ha.len;have hkl3:=hb.len
 refine sq (rl (bx 0 ?_));refine bx 1 ?_;refine o1 ?_;refine nl (sq (rl (ld ?_)));refine ld ?_
 refine ca (YS ha hb) aAW ⟨aC rfl,aC rfl,rfl⟩ (kF (k-k')) ?_;refine ca (Gj (Zg.of (k:=k-k') hs)) Xu ⟨aC rfl,rfl⟩ (.one (tv (.int .i64 (k-k').sign))) ?_;refine o1 ?_
 refine nl (rt ?_);exact en (.inl rfl) rfl (bD (cX _)) (by decide) (fun _=>trivial) rfl
end Go.Proofs.YtbbabfkgdnkehaaGreat
