/- Part 7 of a proof: RatL to Ue. -/
import Derived.Test.YtcaakamelngceaaGreatDoorM6
import Derived.Test.YtcaakamelngceaaGreatDoorM4
import Derived.Test.YtcaakamelngceaaGreatDoorM5
import Derived.Shelf.Strings.Trim
import Derived.Shelf.Strings.SlTrimAscii
import Derived.Test.YtcaakamelngceaaGreatDoorProg
set_option maxRecDepth 100000
set_option linter.unusedVariables false
set_option linter.unusedSimpArgs false
namespace Go.Proofs.YtcaakamelngceaaGreatDoor
open Go Go.RowKit
theorem gU {L M:Nat}{a b:Int}(ha:kQ L a) (hb:kQ M b):kQ (L+M) (a*b):=Nat.le_trans (Du a b) (Nat.add_le_add ha hb)
theorem Dw {a b:Int}(hb:0<b):(Rat.divInt a b).num.sign=a.sign:=by
 rw[(pJ (N:=a) hb).1]
 have hg:0<Int.gcd a b:=Nat.gcd_pos_of_pos_right _ (by omega)
 have hd:((Int.gcd a b:Nat):Int)∣ a:=Int.gcd_dvd_left ..
 obtain⟨k,hk⟩:=hd
 generalize Int.gcd a b=g at*
 subst hk
 have h1:((g:Int)*k).fdiv g=k:=by
  rw[Int.fdiv_eq_ediv_of_nonneg _ (by omega)]
  exact Int.mul_ediv_cancel_left k (by omega)
 rw[h1,Int.sign_mul,Int.sign_eq_one_of_pos (show(0:Int)<g by omega),Int.one_mul]
theorem Md (p q:Rat):(p.num*(q.den:Int)-q.num*(p.den:Int)).sign=(p-q).num.sign:=by
 have h:=rC p (-q)
 rw[Rat.neg_num,Rat.neg_den,Int.neg_mul,←Int.sub_eq_add_neg,←Rat.sub_eq_add_neg]at h
 rw[←h,Dw]
 exact Int.mul_pos (by have:=p.den_pos;omega) (by have:=q.den_pos;omega)
theorem lH {a:Rat}:a.num<0↔a<0:=by
 rw[Rat.lt_iff]
 simp
theorem tL {a:Rat}:0<a.num↔0<a:=by
 rw[Rat.lt_iff]
 simp
theorem yQ (p q:Rat):(p-q).num.sign=if p<q then-1 else if p=q then 0 else 1:=by
 split
 ·rename_i h
  have h1:p-q<0:=by grind
  exact Int.sign_eq_neg_one_of_neg (lH.2 h1)
 split
 ·rename_i h
  subst h
  rw[show p-p=0 by grind]
  rfl
 rename_i h1 h2
 have h3:0<p-q:=by grind
 exact Int.sign_eq_one_of_pos (tL.2 h3)
theorem Sz.mono {L M:Nat}{q:Rat}(h:Sz L q) (hL:L≤M):Sz M q:=⟨Nat.le_trans h.1 hL,Nat.le_trans h.2 hL⟩
theorem gL {a b:Int}{L M:Nat}(hb:0<b) (ha:kQ L a) (hb':kQ M b):(dg 4294967296 (Rat.divInt a b).num.natAbs).length≤L∧(dg 4294967296 (Rat.divInt a b).den).length≤M:=by
 have h1:=(pJ (N:=a) hb)
 have hg:0<Int.gcd a b:=Nat.gcd_pos_of_pos_right _ (by omega)
 constructor
 ·refine Nat.le_trans (eR (by omega) ?_) ha
  rw[h1.1]
  have hd:((Int.gcd a b:Nat):Int)∣ a:=Int.gcd_dvd_left ..
  obtain⟨k,hk⟩:=hd
  generalize Int.gcd a b=g at*
  subst hk
  rw[Int.fdiv_eq_ediv_of_nonneg _ (by omega),Int.mul_ediv_cancel_left k (by omega),Int.natAbs_mul]
  exact Nat.le_mul_of_pos_left _ (by omega)
 refine Nat.le_trans (eR (by omega) ?_) hb'
 have h2:((Rat.divInt a b).den:Int)≤b:=by
  rw[h1.2,Int.fdiv_eq_ediv_of_nonneg _ (by omega)]
  exact Int.ediv_le_self _ (by omega)
 omega
theorem An {L M:Nat}{p q:Rat}(hp:Sz L p) (hq:Sz M q):Sz (L+M+1) (p+q):=by
 rw[←rC p q]
 have h1:=gU hp.1 (kB hq)
 have h2:=gU hq.1 (kB hp)
 have h3:=gU (kB hp) (kB hq)
 have h4:kQ (L+M+1) (p.num*q.den+q.num*p.den):=Dv _ _ h1 (Nat.le_trans h2 (by omega))
 have h5:=gL (Int.mul_pos (show(0:Int)<p.den by have:=p.den_pos;omega) (show(0:Int)<q.den by have:=q.den_pos;omega)) h4 h3
 exact⟨h5.1,Nat.le_trans h5.2 (by omega)⟩
theorem uC {L:Nat}{p:Rat}(hp:Sz L p):Sz L (-p):=⟨by rw[Rat.neg_num,Int.natAbs_neg];exact hp.1,by rw[Rat.neg_den];exact hp.2⟩
theorem Yd {L M:Nat}{p q:Rat}(hp:Sz L p) (hq:Sz M q):Sz (L+M+1) (p-q):=by
 rw[Rat.sub_eq_add_neg]
 exact An hp (uC hq)
theorem cV {z:Int}(h1:-9223372036854775808≤z) (h2:z≤9223372036854775807):Sz 2 (z:Rat):=by
 refine⟨?_,?_⟩
 ·exact bM (by omega) (by show z.natAbs<_;omega)
 exact bM (by omega) (by show(1:Nat)<_;omega)
theorem Up (p q:Rat):decide (0<(q-p).num.sign)=decide (p<q):=by
 rw[yQ]
 by_cases h:q<p
 ·have:¬p<q:=by grind
  simp[h,this]
 by_cases h2:q=p
 ·subst h2;simp[h]
 have:p<q:=by grind
 simp[h,h2,this]
def dA (p:Rat) (l:List Rat):Rat:=l.foldl (fun a b=>if a<b then b else a) p
def aJ (xs:List Nat):List Tr:=xs.map fun(n:Nat)=>.v (.int .u32 (n:Int))
def sU (o:Bool) (xs:List Nat):Tr:=.s o 115 1 xs.length (aJ xs)
theorem Cg (xs:List Nat):(aJ xs).length=xs.length:=by simp[aJ]
theorem fI (xs:List Nat):NoFrL (aJ xs):=by
 induction xs with
 | nil=>simp[aJ,NoFrL]
 | cons x xs ih=>simpa[aJ,NoFrL,iX]using ih
structure Fr4 where
 s:Bool
 x:List Nat
 t:Bool
 y:List Nat
namespace Fr4
def tr (o:Bool) (a:Fr4):List Tr:=[.v (.bool a.s),sU o a.x,.v (.bool a.t),sU o a.y]
def q (a:Fr4):Rat:=rA a.s a.x a.t a.y
def of (q:Rat):Fr4:=⟨aW q.num,dg 4294967296 q.num.natAbs,false,dg 4294967296 q.den⟩
def ok (a:Fr4):Prop:=Lim 4294967296 a.x∧Lim 4294967296 a.y∧a.x.length≤68719476736∧a.y.length≤68719476736
theorem q_of (q:Rat):(of q).q=q:=AH q
end Fr4
def qF (a:Fr4):FV:=.agg ((a.tr false).map .t)
def qO (q:Rat):FV:=.agg (((Fr4.of q).tr true).map .t)
theorem rD (q:Rat):fZ (qO q):=by
 simp only[fZ,qO,kL,Fr4.tr,List.map_cons,List.map_nil,gH,mS,sU,iX]
 exact⟨trivial,.inl ⟨trivial,fI _⟩,trivial,.inl ⟨trivial,fI _⟩,trivial⟩
section
variable {W:World}{N:Nat→Prop}
theorem xB {o:Bool}{xs:List Nat}{u:Value}(h:FR W N (sU o xs) u) (hl:Lim 4294967296 xs):∃A c,u=.slice A xs.length c∧LimR W N A xs.length c xs:=by
 simp only[sU,FR]at h
 obtain⟨A,c,rfl,h1,h2,h3,h4⟩:=h
 refine⟨A,c,rfl,rfl,h1,h2,hl,fun hn=>?_⟩
 rcases h4 with h4 | ⟨ad,rfl,h5,h6⟩
 ·omega
 refine⟨ad,rfl,h5,fun k u hk=>?_⟩
 simp only[dX,List.getElem?_map,Option.map_eq_some_iff]at hk
 obtain⟨m,hm,rfl⟩:=hk
 obtain⟨u,e1,e2⟩:=jL h6 (j:=k) (x:=.v (.int .u32 (m:Int))) (by simp[aJ,hm])
 simp only[FR]at e2
 rw[Nat.zero_add]at e1
 rw[e1,e2]
theorem oF {t:TypeId}{base n c:Nat}{A:Option Addr}{xs:List Nat}(h:Own t W base A n c xs):∃y:VT,y.val=.slice A n c∧OR W N (.s true t 1 xs.length (aJ xs)) y∧y.ok W∧y.fp=(Value.slice A n c).ownBlock.toList:=by
 have hl:=h.len
 rcases h.row.2 with⟨h2,h3⟩ | ⟨g,cap,cur,hv,_,hg,hnc,hcm,hcs,htake⟩
 ·injection h2 with e1 e2 e3
  subst e1 e3
  subst h3
  have:xs=[]:=List.eq_nil_of_length_eq_zero hl
  subst this
  exact⟨.w (.slice none 0 0),rfl,by simp[OR,aJ],by simp[VT.ok],by simp[VT.fp,Value.ownBlock]⟩
 injection hv with e1 e2 e3
 subst e1 e3
 have hor:ORL W N (aJ xs) ((dX xs).map VT.w):=by
  clear hl htake h
  induction xs with
  | nil=>simp[aJ,dX,ORL]
  | cons x xs ih=>simpa[aJ,dX,ORL,OR]using ih
 refine⟨.s g c t 1 n ((dX xs).map .w),rfl,?_,?_,by simp[VT.fp,gQ,Value.ownBlock]⟩
 ·simp only[OR]
  exact⟨trivial,hl.symm,trivial,trivial,hor⟩
 simp only[VT.ok]
 refine⟨⟨cur.toList.drop (n*1),?_,?_⟩,hnc,hcm,by simp[fN,hl],mQ _⟩
 ·rw[mR,←htake,List.take_append_drop]
  simpa using hg
 rw[mR,←htake,List.take_append_drop]
 simpa using hcs
end
section
variable {f:FuncId}{args:List FV}
theorem mF {N:Nat→Prop}{w:World}{cs:List Co}{us:List Value}(hL:Loc ((aC (aL []) cs).flatMap Res.S) w w (aC (aL []) cs) [(Ks [] cs args us).on N]):cs=[]∧cA w (fun b=>b<w.heap.size∧N b) [] args us:=by
 have h:=Sh.off (hL.sh 0 rfl)
 have hc:cs=[]:=List.eq_nil_of_length_eq_zero (by have:=h.1.1;simpa[aL]using this.symm)
 subst hc
 exact⟨rfl,iG (fun _ _=>rfl) (fun b hb=>⟨hb.1.1,hb.2⟩) .refl _ _ h.2⟩
theorem Ended.mk0 {fresh:Bool}{N:Nat→Prop}{M:List Nat}{w W:World}{R:List Lt→FV→Prop}{v:Value}{r:FV}{y:List VT}(hR:R [] r) (hb:Below w.heap.size w W) (hok:VT.okL W y) (hnd:(VT.fpL y).Nodup) (hfp:∀b∈VT.fpL y,w.heap.size≤b∧b<W.heap.size)
  (hro:RO W (fun b=>fresh=false∧(b<W.heap.size∧b∉VT.fpL y)∧(N b∨w.heap.size≤b)) [] r v y):Ended fresh N M w [] [] R (.returned v) W:=by
 refine⟨v,[],[],r,y,rfl,hR,rfl,fun _ _ _ h=>by simp at h,rfl,.refl,?_⟩
 refine⟨⟨hb.os,hb.tape,hb.output,hb.size,fun k hk _=>hb.block k hk⟩,fun q hq=>?_,fun b hb=>?_,by simpa[aL,aC,dO]using hnd,fun q hq=>?_⟩
 ·simp[aL,aC]at hq
  subst hq
  exact hok
 ·have:=hfp b (by simpa[aL,aC,dO]using hb)
  exact⟨.inr this.1,this.2⟩
 simp at hq
 subst hq
 refine⟨⟨rfl,fun k o hk=>by simp[aL]at hk⟩,lI (fun _ _=>rfl) (fun b hb=>⟨hb.1,⟨⟨hb.2.1.1,?_⟩,hb.2.2.elim .inl fun h=>.inr (.inr h)⟩⟩) .refl hro⟩
 simpa[aL,aC,dO]using hb.2.1.2
theorem jT {v:Value}(h:∀(N:Nat→Prop) (w:World) us,cA w N [] args us→(∀b,N b→b<w.heap.size)→Calls Tryz.prog f us.toArray w (fun e w'=>e=.returned v∧Below w.heap.size w w')):aE true Tryz.prog f [] args (aI (.one (tv v))):=by
 intro N w cs us hL
 obtain⟨rfl,hf⟩:=mF hL
 refine(h _ w us hf (fun b hb=>hb.1)).mono ?_
 rintro e W ⟨rfl,hb⟩
 refine .mk0 (y:=[.w v]) rfl hb (by simp[VT.okL,VT.ok]) (by simp[VT.fpL,VT.fp]) (by simp[VT.fpL,VT.fp]) ⟨.w v,rfl,rfl,?_⟩
 simp[CR,tv,OR]
end
theorem jU {W:World}{N:Nat→Prop}{a b:FV}{us:List Value}(h:cA W N [] [a,b] us):∃u v,us=[u,v]∧bB W N [] a u∧bB W N [] b v:=by
 match us,h with
 | [u,v],h=>
  simp only[cA]at h
  exact⟨u,v,rfl,h.1,h.2.1⟩
 | [],h=>simp only[cA]at h
 | [_],h=>simp only[cA]at h;exact h.2.elim
 | _::_::_::_,h=>simp only[cA]at h;exact absurd h.2.2 (by simp)
theorem Iw {W:World}{N:Nat→Prop}{a:FV}{us:List Value}(h:cA W N [] [a] us):∃u,us=[u]∧bB W N [] a u:=by
 match us,h with
 | [u],h=>
  simp only[cA]at h
  exact⟨u,rfl,h.1⟩
 | [],h=>simp only[cA]at h
 | _::_::_,h=>simp only[cA]at h;exact absurd h.2 (by simp)
section
variable {a b:Fr4}
end
theorem Ch (xs:List Nat){k:Nat}(h:k<xs.length):((aJ xs).drop (k*1)).take [Tr.v (.int .u32 ((nth xs k:Nat):Int))].length=[Tr.v (.int .u32 ((nth xs k:Nat):Int))]:=by
 rw[Nat.mul_one]
 have:(aJ xs)[k]? =some (Tr.v (.int .u32 ((nth xs k:Nat):Int))):=by simp[aJ,bT h,h]
 rw[List.length_singleton,List.take_one]
 simp[this]
theorem bS {x:Cx}{g:Nat→FV}{ob:List (Option Ob)}(h0:x.c0.length=0) (τ:List Nat) (live:List (Nat×FV)) (os:List Ob) (hn:τ.Nodup) (h1:qN τ g live) (h2:fD τ ob τ os):Sub x g ob (dD live) (os.map some):=
 su τ (fun k hk=>by rw[h0]at hk;cases hk) live os hn h1 h2
theorem bE (xs:List Nat):((aJ xs).map AV.t).take (xs.length*1)=(aJ xs).map .t:=by rw[Nat.mul_one,List.take_of_length_le (by simp[Cg])]
theorem aQ (xs:List Nat):(aJ xs).length=xs.length*1:=by simp[Cg]
def rO (a:Fr4):FV:=.agg ((a.tr true).map .t)
theorem vC (a:Fr4):fZ (rO a):=by
 simp only[fZ,rO,kL,Fr4.tr,List.map_cons,List.map_nil,gH,mS,sU,iX]
 exact⟨trivial,.inl ⟨trivial,fI _⟩,trivial,.inl ⟨trivial,fI _⟩,trivial⟩
theorem AI {a b:Fr4}:a=b↔(a.s=b.s∧a.t=b.t)∧a.x=b.x∧a.y=b.y:=by
 obtain⟨s,x,t,y⟩:=a
 obtain⟨s',x',t',y'⟩:=b
 simp only[Fr4.mk.injEq]
 constructor
 ·rintro⟨h1,h2,h3,h4⟩
  exact⟨⟨h1,h3⟩,h2,h4⟩
 rintro⟨⟨h1,h3⟩,h2,h4⟩
 exact⟨h1,h2,h3,h4⟩
instance:DecidableEq Fr4:=fun a b=>decidable_of_iff _ AI.symm
def hv:List Nat→List Nat
 | []=>[]
 | x::xs=>x%65536::x/65536::hv xs
def lb:List Nat→List Nat
 | []=>[]
 | [a]=>[a]
 | a::b::l=>(a+65536*b)::lb l
theorem nN (a b:Nat):Int.tmod (a:Int) (b:Int)=((a%b:Nat):Int):=by
 rw[Int.tmod_eq_emod_of_nonneg (by omega)]
 rfl
theorem Gf (a b:Nat):Int.tdiv (a:Int) (b:Int)=((a/b:Nat):Int):=by
 rw[Int.tdiv_eq_ediv_of_nonneg (by omega)]
 rfl
theorem AJ {k:IntKind}{a:Nat}(b:Nat) (hb:b≠0) (h:lB k (a:Int)):(b:Int)≠0∧lB k (Int.tdiv (a:Int) (b:Int)):=by
 refine⟨by omega,?_⟩
 rw[Gf]
 have:=Nat.div_le_self a b
 generalize a/b=c at this⊢
 cases k <;> simp only[lB]at h⊢ <;> omega
section
variable {x:Cx}{g:Nat→FV}{ob:List (Option Ob)}
end
section
variable {l:List Nat}{k N:Nat}{z:Int}{xs:List Nat}{neg:Bool}
theorem Ix (hr:cI neg xs=false):cX neg xs=0:=by simp[cX,hr]
theorem pK (h:xs.length=0):cI neg xs= !neg:=by
 rw[List.length_eq_zero_iff]at h
 subst h
 simp[cI]
theorem vD {n:Nat}(hn:xs.length=n) (h:0<n):cI neg xs=decide (((nth xs (n-1):Nat):Int)≠0):=by
 subst hn
 rcases xs with _ | ⟨x,l⟩
 ·simp at h
 simp only[cI,List.isEmpty_cons,Bool.false_and,Bool.not_false,Bool.true_and,Bool.false_or]
 by_cases h0:nth (x::l) ((x::l).length-1)=0
 ·rw[h0];rfl
 rw[bne_iff_ne.2 h0,decide_eq_true (by omega)]
theorem Uq (k:Int):cP (!(aW k)) k.natAbs=-k:=by
 unfold cP aW
 by_cases h:k<0 <;> simp[h] <;> omega
theorem Gg {xs ys:List Nat}(hx:Lim 4294967296 xs) (hy:Lim 4294967296 ys):(dg 4294967296 (vl 4294967296 xs+vl 4294967296 ys)).length≤xs.length+ys.length+1:=by
 refine bM (by omega) ?_
 have h1:=eL hx
 have h2:=eL hy
 have h3:4294967296^xs.length≤4294967296^(xs.length+ys.length):=Nat.pow_le_pow_right (by omega) (by omega)
 have h4:4294967296^ys.length≤4294967296^(xs.length+ys.length):=Nat.pow_le_pow_right (by omega) (by omega)
 rw[Nat.pow_succ]
 omega
theorem Ur {xs ys:List Nat}(hx:Lim 4294967296 xs) (hy:Lim 4294967296 ys):(dg 4294967296 (vl 4294967296 xs*vl 4294967296 ys)).length≤xs.length+ys.length:=by
 refine bM (by omega) ?_
 rw[Nat.pow_add]
 exact Nat.mul_lt_mul'' (eL hx) (eL hy)
theorem bH (k:Int):vl 4294967296 (dg 4294967296 k.natAbs)=k.natAbs:=cU (by omega) _
theorem dK {a b:Nat}(h:a≤b):(dg 4294967296 a).length≤(dg 4294967296 b).length:=eR (by omega) h
theorem iH (k k':Int):(dg 4294967296 (k+k').natAbs).length≤(dg 4294967296 k.natAbs).length+(dg 4294967296 k'.natAbs).length+1:=by
 have h:=Gg (bC (B:=4294967296) (by omega) k.natAbs) (bC (B:=4294967296) (by omega) k'.natAbs)
 rw[bH,bH]at h
 exact Nat.le_trans (dK (by omega)) h
theorem tM (k k':Int):(dg 4294967296 (k-k').natAbs).length≤(dg 4294967296 k.natAbs).length+(dg 4294967296 k'.natAbs).length+1:=by
 have h:=iH k (-k')
 rw[Int.natAbs_neg]at h
 exact h
theorem fR (k k':Int):(dg 4294967296 (k*k').natAbs).length≤(dg 4294967296 k.natAbs).length+(dg 4294967296 k'.natAbs).length:=by
 rw[Int.natAbs_mul]
 have h:=Ur (bC (B:=4294967296) (by omega) k.natAbs) (bC (B:=4294967296) (by omega) k'.natAbs)
 rwa[bH,bH]at h
theorem mG (k:Int):(dg 4294967296 (-(k)).natAbs).length=(dg 4294967296 k.natAbs).length:=by rw[Int.natAbs_neg]
theorem Me {k k':Int}{s:Bool}(h:s=aW k) (h':aW k=aW k'):cP s (k.natAbs+k'.natAbs)=k+k':=by
 subst h
 unfold aW at*
 unfold cP
 by_cases h1:k<0 <;> by_cases h2:k'<0 <;> simp[h1,h2]at h'⊢ <;> omega
theorem Us {k k':Int}{s:Bool}(h:s=aW k) (h':aW k≠aW k') (hl:¬k.natAbs<k'.natAbs):cP s (k.natAbs-k'.natAbs)=k+k':=by
 subst h
 unfold aW at*
 unfold cP
 by_cases h1:k<0 <;> by_cases h2:k'<0 <;> simp[h1,h2]at h'⊢ <;> omega
theorem Ut {k k':Int}{s:Bool}(h:s=aW k') (h':aW k≠aW k') (hl:k.natAbs<k'.natAbs):cP s (k'.natAbs-k.natAbs)=k+k':=by
 subst h
 unfold aW at*
 unfold cP
 by_cases h1:k<0 <;> by_cases h2:k'<0 <;> simp[h1,h2]at h'⊢ <;> omega
end
structure Zi where
 s:Bool
 x:List Nat
def Zi.of (k:Int):Zi:=⟨aW k,dg 4294967296 k.natAbs⟩
def gF (a:Zi):FV:=.agg (([.v (.bool a.s),sU false a.x]:List Tr).map .t)
def kF (k:Int):FV:=.agg (([.v (.bool (aW k)),sU false (dg 4294967296 k.natAbs)]:List Tr).map .t)
def kO (k:Int):FV:=.agg (([.v (.bool (aW k)),sU true (dg 4294967296 k.natAbs)]:List Tr).map .t)
def Zn (a:Zi) (k:Int):Prop:=Lim 4294967296 a.x∧a.x.length≤137438953472∧cX a.s a.x=k
theorem Zn.of {k:Int}(h:(dg 4294967296 k.natAbs).length≤137438953472):Zn (.of k) k:=⟨bC (by omega) _,h,oE k⟩
theorem Zn.len {a:Zi}{k:Int}(h:Zn a k):(dg 4294967296 k.natAbs).length≤137438953472:=by
 obtain⟨h1,h2,rfl⟩:=h
 exact Nat.le_trans (sC h1) h2
theorem vE {b:Bool}{m:Nat}{k:Int}(h:b=aW k) (hm:m=k.natAbs):FV.agg [tv (.bool b),.t (sU true (dg 4294967296 m))]=kO k:=by subst h hm;rfl
theorem Uu:FV.agg [tv (.bool false),.t (sU false [])]=kF 0:=by
 unfold kF
 rw[show Int.natAbs 0=0 from rfl,gN]
 rfl
theorem eW (k:Int):fZ (kO k):=by
 simp only[fZ,kO,kL,List.map_cons,List.map_nil,gH,mS,sU,iX]
 exact⟨trivial,.inl ⟨trivial,fI _⟩,trivial⟩
theorem Uv (b:Bool) (m:Nat):fZ (.agg (([.v (.bool b),sU true (dg 4294967296 m)]:List Tr).map .t)):=by
 simp only[fZ,kL,List.map_cons,List.map_nil,gH,mS,sU,iX]
 exact⟨trivial,.inl ⟨trivial,fI _⟩,trivial⟩
theorem EM:CallOk Tryz.prog 180:=.mk Tryz.func180 (by decide) rfl
def bK (l:List Nat):Nat:=l.foldl (fun n c=>n*10+(c-48)) 0
theorem AK {l:List Nat}{k:Nat}(h:k<l.length):bK (l.take k)*10+(nth l k-48)=bK (l.take (k+1)):=by
 have e:l[k]? =some (nth l k):=by rw[bT h];simp[h]
 rw[List.take_add_one,e]
 simp[bK]
theorem zE:∀{l:List Nat}{k:Nat},(∀c∈l,48≤c∧c≤57)→k≤l.length→bK (l.take k)<10^k
 | l,0,_,_=>by simp[bK]
 | l,k+1,h,hk=>by
  have ih:=zE (k:=k) h (by omega)
  have h2:=h (nth l k) (by rw[bT (by omega)];exact List.getElem_mem _)
  rw[←AK (by omega),Nat.pow_succ]
  omega
theorem Mf {l:List Nat}{k:Nat}(h:∀c∈l,48≤c∧c≤57) (hk:k<l.length):48≤nth l k∧nth l k≤57:=h _ (by rw[bT hk];exact List.getElem_mem hk)
theorem Uw {l:List Nat}(h:∀c∈l,48≤c∧c≤57):Lim 256 l:=fun c hc=>by have:=h c hc;omega
theorem EN {k:Nat}(h:k≤17):10^k≤100000000000000000:=Nat.le_trans (Nat.pow_le_pow_right (by omega) h) (by decide)
theorem Ux {l:List Nat}(hd:∀c∈l,48≤c∧c≤57) (h0l:0<l.length) (h18:l.length≤18):aE true Tryz.prog 180 [] [.one (tv (.string (aA l)))] (aI (.tup [.one (tv (.int .i64 ((bK l:Nat):Int))),.one (tv .nilIface)])):=by
 refine bQ Tryz.func180 rfl Tryz.ntmps180 rfl aB rfl fun N9 w9 c0 h0=>?_
 have hd0:=Mf hd h0l
 refine sq ?_;refine rl ?_;refine o1 ?_;refine o1 ?_;refine nl ?_;refine sq ?_;refine rl ?_;refine o1 ?_;refine o1 ?_
 refine WL.cast (t:=12) (u':=.int .i64 ((l.length:Nat):Int)) rfl (congrArg (fun n:Nat=>Value.int .i64 (n:Int)) (aH _)) ?_
 refine o1 ?_;refine nl ?_;refine sq ?_;refine sq ?_;refine rl ?_;refine o1 ?_;(iterate 6 refine dE ?_);(iterate 6 refine o1 ?_);refine WL.split (t:=25) rfl (fun h1=>?_) (fun h1=>?_)
 ·(iterate 5 refine o1 ?_);refine nl ?_;refine cY rfl (fun h2=>?_) (fun h2=>?_)
  ·refine sq ?_;refine rl ?_;refine o1 ?_;refine o1 ?_;refine nl ?_;refine sq ?_;refine sq ?_;refine rl ?_;refine o1 ?_;refine o1 ?_ (hC:=(by rw[aH];show 0<l.length;omega))
   refine WL.cast (t:=33) (u':=.int .u8 (((nth l 0):Nat):Int)) rfl (congrArg (fun n:Nat=>Value.int .u8 (n:Int)) (lD (i:=0) (by omega) (by omega))) ?_
   refine o1 ?_;refine o1 ?_;refine WL.split (t:=35) rfl (fun h3=>?_) (fun h3=>?_)
   ·omega
   refine o1 ?_;refine o1 ?_ (hC:=(by rw[aH];show 0<l.length;omega))
   refine WL.cast (t:=37) (u':=.int .u8 (((nth l 0):Nat):Int)) rfl (congrArg (fun n:Nat=>Value.int .u8 (n:Int)) (lD (i:=0) (by omega) (by omega))) ?_
   refine o1 ?_;refine o1 ?_;refine nl ?_;refine cY rfl (fun h4=>?_) (fun h4=>?_)
   ·omega
   refine sk ?_;refine sq ?_;refine rl ?_;refine o1 ?_;refine nl ?_;refine sq ?_;refine sq ?_;refine rl ?_;refine o1 ?_;refine KE (Uw hd) (by omega) ?_
   refine o1 ?_;refine o1 ?_;refine nl ?_;refine bl ?_
   refine lp (γ:=Nat) (fun k=>dD [(5,.one (tv (.string (aA l)))),(6,.one (tv (.int .i64 ((bK (l.take k):Nat):Int)))),(47,.one (.t (.s false 5 1 l.length (cM l)))),(48,.one (tv (.int .i64 ((l.length:Nat):Int)))),(49,.one (tv (.int .i64 ((k:Nat):Int))))]) (fun _=>([]:List Ob).map some) (fun k=>k≤l.length) (fun k=>l.length-k) 0 (Nat.zero_le _) (bS h0 [] _ _ (by decide) ⟨rfl,rfl,rfl,rfl,rfl,trivial⟩ rfl) fun k hk=>?_
   refine sq ?_;refine rl ?_;refine o1 ?_;refine nl ?_;refine sq ?_;refine cY rfl (fun h5=>?_) (fun h5=>?_)
   ·refine sk ?_;refine sq ?_;refine bl ?_;refine sq ?_;have hdk:=Mf hd (k:=k) (by omega)
    have hvk:=Nat.lt_of_lt_of_le (zE (k:=k) hd hk) (EN (by omega))
    refine rl ?_;refine o1 ?_;refine xP ([.v (.int .u8 ((nth l (k):Nat):Int))]) (EF l (k:=k) (by omega)) ?_
    refine o1 ?_;refine nl ?_;refine sq ?_;refine rl ?_;refine o1 ?_;refine o1 ?_;refine WL.cast (t:=54) (u':=.int .u8 (((nth l k-48):Nat):Int)) rfl (bO (by omega)) ?_
    refine o1 ?_;refine nl ?_;refine sq ?_;refine sq ?_;refine rl ?_;refine o1 ?_;refine o1 ?_;refine nl ?_;refine cY rfl (fun h6=>?_) (fun h6=>?_)
    ·omega
    refine sk ?_;refine rl ?_;refine o1 ?_;refine o1 ?_;refine WL.cast (t:=59) (u':=.int .i64 (((bK (l.take k)*10):Nat):Int)) rfl (bO (by omega)) ?_
    refine o1 ?_;refine o1 ?_;refine WL.cast (t:=61) (u':=.int .i64 (((nth l k-48):Nat):Int)) rfl (bO (by omega)) ?_
    refine o1 ?_;refine WL.cast (t:=62) (u':=.int .i64 (((bK (l.take k)*10+(nth l k-48)):Nat):Int)) rfl (bO (by omega)) ?_
    refine WL.cast (t:=62) (u':=.int .i64 (((bK (l.take k)*10)+(nth l k-48):Nat):Int)) rfl (bO (by omega)) ?_
    refine o1 ?_;refine nl ?_;refine rl ?_;refine o1 ?_;refine WL.cast (t:=63) (u':=.int .i64 ((k+1:Nat):Int)) rfl (bO (by omega)) ?_
    refine o1 ?_;refine nl ?_
    exact⟨k+1,by omega,by omega,bS h0 [] _ _ (by decide) ⟨rfl,qI (congrArg (fun n:Nat=>(n:Int)) (AK (by omega)).symm),rfl,rfl,rfl,trivial⟩ rfl⟩
   refine ex ?_;refine sq ?_;refine sq ?_;refine rl ?_;refine o1 ?_;refine o1 ?_ (hC:=(by rw[aH];show 0<l.length;omega))
   refine WL.cast (t:=65) (u':=.int .u8 (((nth l 0):Nat):Int)) rfl (congrArg (fun n:Nat=>Value.int .u8 (n:Int)) (lD (i:=0) (by omega) (by omega))) ?_
   refine o1 ?_;refine nl ?_;refine cY rfl (fun h7=>?_) (fun h7=>?_)
   ·omega
   refine sk ?_;refine sq ?_;refine rl ?_;(iterate 3 refine o1 ?_);refine nl ?_;refine rt ?_;have hk9:k=l.length:=by omega
   exact en (.inl rfl) rfl (dP (.cons (aZ _) (.cons (aZ _) .nil))) (by decide) (fun _=>⟨trivial,trivial,trivial⟩) (by rw[hk9,List.take_of_length_le (Nat.le_refl _)];rfl)
  omega
 omega
theorem vF {l:List Nat}(hd:∀c∈l,48≤c∧c≤57) (h0l:0<l.length) (h18:l.length≤18):aE true Tryz.prog 164 [] [.one (tv (.string (aA l)))] (aI (.tup [.one (tv (.int .i64 ((bK l:Nat):Int))),.one (tv .nilIface)])):=by
 refine bQ Tryz.func164 rfl Tryz.ntmps164 rfl aB rfl fun N9 w9 c0 h0=>?_
 refine sq ?_;refine rl ?_;refine o1 ?_;refine o1 ?_;refine nl ?_;refine sq ?_;refine rl ?_;refine o1 ?_
 refine ca (Ux hd h0l h18) EM ⟨a1 rfl,rfl⟩ (.tup [.one (tv (.int .i64 ((bK l:Nat):Int))),.one (tv .nilIface)]) ?_;(iterate 5 refine o1 ?_);refine nl ?_;refine sq ?_;refine sq ?_
 refine rl ?_;refine o1 ?_;refine KF ?_ (by kernel_rfl)
 refine nl ?_;refine kH rfl ?_;refine sk ?_;refine sq ?_;refine rl ?_;(iterate 3 refine o1 ?_);refine nl ?_;refine rt ?_
 exact en (.inl rfl) rfl (dP (.cons (aZ _) (.cons (aZ _) .nil))) (by decide) (fun _=>⟨trivial,trivial,trivial⟩) rfl
end Go.Proofs.YtcaakamelngceaaGreatDoor
namespace Go.Proofs.YtcaakamelngceaaGreatDoor
open Go Go.Shelf
def laysS_ren:Go.Shelf.Ren:=⟨fun | 119=>190 | 120=>176 | 137=>189 | 151=>161 | 152=>177 | 160=>125 | 161=>89 | 162=>58 | 197=>168 | 217=>204 | 224=>191 | 225=>192 | 227=>113 | 228=>159 | 231=>140 | 232=>112 | 233=>141 | 234=>114 | 235=>142 | 236=>115 | 260=>183 | 266=>212 | 271=>160 | n=>n,fun | 0=>0 | 3=>3 | 4=>4 | 5=>5 | 9=>9 | 21=>21 | 46=>119 | 105=>181 | 116=>147 | 117=>148 | 119=>215 | 124=>151 | 138=>217 | 139=>218 | n=>n,fun | 3=>2 | 4=>3 | n=>n⟩
theorem pL:Go.Proofs.Lays.n160 Tryz.prog laysS_ren:={
 mixed:=by kernel_rfl
 f119:=Tryz.func190.trans (congrArg some (by kernel_rfl))
 f120:=Tryz.func176.trans (congrArg some (by kernel_rfl))
 f137:=Tryz.func189.trans (congrArg some (by kernel_rfl))
 f151:=Tryz.func161.trans (congrArg some (by kernel_rfl))
 f152:=Tryz.func177.trans (congrArg some (by kernel_rfl))
 f160:=Tryz.func125.trans (congrArg some (by kernel_rfl))
 f197:=Tryz.func168.trans (congrArg some (by kernel_rfl))
 f217:=Tryz.func204.trans (congrArg some (by kernel_rfl))
 f224:=Tryz.func191.trans (congrArg some (by kernel_rfl))
 f225:=Tryz.func192.trans (congrArg some (by kernel_rfl))
 f227:=Tryz.func113.trans (congrArg some (by kernel_rfl))
 f228:=Tryz.func159.trans (congrArg some (by kernel_rfl))
 f231:=Tryz.func140.trans (congrArg some (by kernel_rfl))
 f232:=Tryz.func112.trans (congrArg some (by kernel_rfl))
 f233:=Tryz.func141.trans (congrArg some (by kernel_rfl))
 f234:=Tryz.func114.trans (congrArg some (by kernel_rfl))
 f235:=Tryz.func142.trans (congrArg some (by kernel_rfl))
 f236:=Tryz.func115.trans (congrArg some (by kernel_rfl))
 f260:=Tryz.func183.trans (congrArg some (by kernel_rfl))
 f266:=Tryz.func212.trans (congrArg some (by kernel_rfl))
 f271:=Tryz.func160.trans (congrArg some (by kernel_rfl))
 t0:=Tryz.underlying0
 a0:=Tryz.isAgg0
 z0:=Tryz.sizeOf0
 v0:=Tryz.zeroValue0
 t3:=Tryz.underlying3
 a3:=Tryz.isAgg3
 z3:=Tryz.sizeOf3
 v3:=Tryz.zeroValue3
 t4:=Tryz.underlying4
 a4:=Tryz.isAgg4
 z4:=Tryz.sizeOf4
 v4:=Tryz.zeroValue4
 t5:=Tryz.underlying5
 a5:=Tryz.isAgg5
 z5:=Tryz.sizeOf5
 v5:=Tryz.zeroValue5
 t9:=Tryz.underlying9
 a9:=Tryz.isAgg9
 z9:=Tryz.sizeOf9
 v9:=Tryz.zeroValue9
 t21:=Tryz.underlying21
 a21:=Tryz.isAgg21
 z21:=Tryz.sizeOf21
 v21:=Tryz.zeroValue21
 t46:=Tryz.underlying119
 a46:=Tryz.isAgg119
 z46:=Tryz.sizeOf119
 v46:=Tryz.zeroValue119
 t105:=Tryz.underlying181
 a105:=Tryz.isAgg181
 z105:=Tryz.sizeOf181
 v105:=Tryz.zeroValue181
 t116:=Tryz.underlying147
 a116:=Tryz.isAgg147
 z116:=Tryz.sizeOf147
 t117:=Tryz.underlying148
 a117:=Tryz.isAgg148
 z117:=Tryz.sizeOf148
 v117:=Tryz.zeroValue148
 t119:=Tryz.underlying215
 a119:=Tryz.isAgg215
 z119:=Tryz.sizeOf215
 t124:=Tryz.underlying151
 a124:=Tryz.isAgg151
 z124:=Tryz.sizeOf151
 v124:=Tryz.zeroValue151
 t138:=Tryz.underlying217
 a138:=Tryz.isAgg217
 z138:=Tryz.sizeOf217
 v138:=Tryz.zeroValue217
 t139:=Tryz.underlying218
 a139:=Tryz.isAgg218
 z139:=Tryz.sizeOf218
 v139:=Tryz.zeroValue218
 g3:=by kernel_rfl
 g4:=by kernel_rfl}
theorem Pp:Go.Proofs.Lays.n161 Tryz.prog laysS_ren:={pL with
 f161:=Tryz.func89.trans (congrArg some (by kernel_rfl))}
theorem Pq:Go.Proofs.Lays.n162 Tryz.prog laysS_ren:={pL with
 f162:=Tryz.func58.trans (congrArg some (by kernel_rfl))}
end Go.Proofs.YtcaakamelngceaaGreatDoor
namespace Go.Proofs.YtcaakamelngceaaGreatDoor
open Go Go.RowKit
section
variable {f:FuncId}{args:List FV}
theorem iO {xs:List Nat}(h:∀(N:Nat→Prop) (w:World) us,cA w N [] args us→(∀b,N b→b<w.heap.size)→Calls Tryz.prog f us.toArray w (jA xs w)):aE true Tryz.prog f [] args (aI (.one (.t (sU true xs)))):=by
 intro N w cs us hL
 obtain⟨rfl,hf⟩:=mF hL
 refine(h _ w us hf (fun b hb=>hb.1)).mono ?_
 rintro e W ⟨A,n,c,rfl,ho,hb⟩
 obtain⟨y1,a1,a2,a3,a4⟩:=oF (N:=fun b=>true=false∧(b<W.heap.size∧b∉VT.fpL [])∧(N b∨w.heap.size≤b)) ho
 refine .mk0 (y:=[y1]) rfl hb (by simp only[VT.okL];exact⟨a3,trivial⟩) ?_ (fun b hb'=>?_) ?_
 ·simp only[VT.fpL,a4,List.append_nil]
  cases A <;> simp[Value.ownBlock]
 ·simp only[VT.fpL,a4,List.append_nil]at hb'
  exact ho.blk b hb'
 exact⟨y1,rfl,a1.symm,fT (fun _ _=>rfl) (fun b hb=>absurd hb.1 (by simp)) _ _ a2⟩
variable {xs ys:List Nat}
theorem fE {W:World}{N:Nat→Prop}{v:Value}(h:bB W N [] (.one (.t (sU false xs))) v) (hl:Lim 4294967296 xs) (hN:∀b,N b→b<W.heap.size):∃A c,v=.slice A xs.length c∧U32 W W.heap.size A xs.length c xs:=by
 simp only[bB,AR]at h
 obtain⟨A,c,rfl,l⟩:=xB h hl
 exact⟨A,c,rfl,l.u32 hN⟩
theorem AM (hx:Lim 4294967296 xs) (h:xs.length≤1099511627776):aE true Tryz.prog 86 [] [.one (.t (sU false xs))] (aI (.one (.t (sU true (trim xs))))):=iO fun N w us hf hN=>by
 obtain⟨u,rfl,h1⟩:=Iw hf
 obtain⟨A,c,rfl,u1⟩:=fE h1 hx hN
 exact dM A _ c xs w u1 h
theorem Gh (hx:Lim 4294967296 xs) (h:xs.length≤1099511627776):aE true Tryz.prog 122 [] [.one (.t (sU false xs))] (aI (.one (.t (sU true xs)))):=iO fun N w us hf hN=>by
 obtain⟨u,rfl,h1⟩:=Iw hf
 obtain⟨A,c,rfl,u1⟩:=fE h1 hx hN
 exact lL A _ c xs w u1 h
theorem EO (hx:Lim 4294967296 xs) (hy:Lim 4294967296 ys):aE true Tryz.prog 178 [] [.one (.t (sU false xs)),.one (.t (sU false ys))] (aI (.one (tv (.int .i64 (jB (vl 4294967296 xs) (vl 4294967296 ys)))))):=jT fun N w us hf hN=>by
 obtain⟨u,v,rfl,h1,h2⟩:=jU hf
 obtain⟨A,c,rfl,u1⟩:=fE h1 hx hN
 obtain⟨B,d,rfl,u2⟩:=fE h2 hy hN
 exact(mD A B _ _ c d xs ys _ w u1 u2).mono fun e W ⟨he,k,hk⟩=>⟨he,hk▸dY (Below.refl _ _) k⟩
theorem Iy (hx:Lim 4294967296 xs) (hy:Lim 4294967296 ys) (h:xs.length≤1099511627776) (h':ys.length≤1099511627776):aE true Tryz.prog 165 [] [.one (.t (sU false xs)),.one (.t (sU false ys))] (aI (.one (.t (sU true (dg 4294967296 (vl 4294967296 xs+vl 4294967296 ys)))))):=iO fun N w us hf hN=>by
 obtain⟨u,v,rfl,h1,h2⟩:=jU hf
 obtain⟨A,c,rfl,u1⟩:=fE h1 hx hN
 obtain⟨B,d,rfl,u2⟩:=fE h2 hy hN
 exact Pg A B _ _ c d xs ys w u1 u2 h h'
theorem Rp (hx:Lim 4294967296 xs) (hy:Lim 4294967296 ys) (h:xs.length≤549755813888) (h':ys.length≤549755813888):aE true Tryz.prog 119 [] [.one (.t (sU false xs)),.one (.t (sU false ys))] (aI (.one (.t (sU true (dg 4294967296 (vl 4294967296 xs*vl 4294967296 ys)))))):=iO fun N w us hf hN=>by
 obtain⟨u,v,rfl,h1,h2⟩:=jU hf
 obtain⟨A,c,rfl,u1⟩:=fE h1 hx hN
 obtain⟨B,d,rfl,u2⟩:=fE h2 hy hN
 exact Uc A B _ _ c d xs ys w u1 u2 h h'
theorem Pr {W:World}{N:Nat→Prop}{t:Nat}{v:Value}(h:bB W N [] (.one (.t (.s false t 1 2 [sU false xs,sU false ys]))) v) (hx:Lim 4294967296 xs) (hy:Lim 4294967296 ys) (hN:∀b,N b→b<W.heap.size):∃A c,v=.slice A 2 c∧URows W W.heap.size A 2 c [xs,ys]:=by
 simp only[bB,AR,FR]at h
 obtain⟨A,c,rfl,h1,h2,_,h4⟩:=h
 rcases h4 with h4 | ⟨ad,rfl,h5,h6⟩
 ·omega
 obtain⟨u0,e0,f0⟩:=jL h6 (j:=0) rfl
 obtain⟨u1,e1,f1⟩:=jL h6 (j:=1) rfl
 obtain⟨A0,c0,rfl,l0⟩:=xB f0 hx
 obtain⟨A1,c1,rfl,l1⟩:=xB f1 hy
 rw[Nat.zero_add]at e0 e1
 refine⟨_,c,rfl,rfl,h1,h2,fun k hk=>?_⟩
 obtain⟨b,o,sp⟩:=ad
 match k,hk with
 | 0,_=>exact⟨b,o,sp,A0,_,c0,rfl,hN _ h5,e0,l0.u32 hN⟩
 | 1,_=>exact⟨b,o,sp,A1,_,c1,rfl,hN _ h5,e1,l1.u32 hN⟩
theorem EP {t:Nat}(hx:Lim 4294967296 xs) (hy:Lim 4294967296 ys) (h:xs.length≤549755813888) (h':ys.length≤549755813888):aE true Tryz.prog 173 [] [.one (.t (.s false t 1 2 [sU false xs,sU false ys]))] (aI (.one (.t (sU true (dg 4294967296 (mE [xs,ys])))))):=iO fun N w us hf hN=>by
 obtain⟨u,rfl,h1⟩:=Iw hf
 obtain⟨A,c,rfl,u1⟩:=Pr h1 hx hy hN
 exact Uj A 2 c [xs,ys] w u1 (by omega) (fun k hk=>by match k,hk with | 0,_=>exact h | 1,_=>exact h')
theorem rE (A:Option Addr) (n c:Nat):((Value.slice A n c).ownBlock.toList).Nodup:=by cases A <;> simp[Value.ownBlock]
theorem Iz (hx:Lim 4294967296 xs) (hy:Lim 4294967296 ys) (h:xs.length≤1099511627776) (hle:vl 4294967296 ys≤vl 4294967296 xs):aE true Tryz.prog 175 [] [.one (.t (sU false xs)),.one (.t (sU false ys))] (aI (.tup [.one (.t (sU true (dg 4294967296 (vl 4294967296 xs-vl 4294967296 ys)))),.one (tv (.int .i64 0))])):=by
 intro N w cs us hL
 obtain⟨rfl,hf⟩:=mF hL
 obtain⟨u,v,rfl,h1,h2⟩:=jU hf
 obtain⟨A,c,rfl,u1⟩:=fE h1 hx fun b hb=>hb.1
 obtain⟨B,d,rfl,u2⟩:=fE h2 hy fun b hb=>hb.1
 refine(Ph A B _ _ c d xs ys w u1 u2 h hle).mono ?_
 rintro e W ⟨A,n,c,rfl,ho,hb⟩
 obtain⟨y1,a1,a2,a3,a4⟩:=oF (N:=fun b=>true=false∧(b<W.heap.size∧b∉VT.fpL [])∧(N b∨w.heap.size≤b)) ho
 refine .mk0 (y:=[y1,.w (.int .i64 0)]) rfl hb (by simp only[VT.okL,VT.ok];exact⟨a3,trivial,trivial⟩) ?_ (fun b hb'=>?_) ?_
 ·simp only[VT.fpL,VT.fp,a4,List.append_nil]
  exact rE A n c
 ·simp only[VT.fpL,VT.fp,a4,List.append_nil]at hb'
  exact ho.blk b hb'
 refine⟨[_,_],rfl,?_⟩
 exact⟨_,_,[y1],[.w (.int .i64 0)],rfl,rfl,⟨y1,rfl,a1.symm,fT (fun _ _=>rfl) (fun b hb=>absurd hb.1 (by simp)) _ _ a2⟩,_,_,[.w (.int .i64 0)],[],rfl,rfl,⟨_,rfl,rfl,by simp[CR,tv,OR]⟩,rfl,rfl⟩
theorem Ps (hx:Lim 4294967296 xs) (hy:Lim 4294967296 ys) (h:xs.length≤549755813888) (h':ys.length≤549755813888) (h0:vl 4294967296 ys≠0):aE true Tryz.prog 174 [] [.one (.t (sU false xs)),.one (.t (sU false ys))] (aI (.tup [.one (.t (sU true (dg 4294967296 (vl 4294967296 xs/vl 4294967296 ys)))),.one (.t (sU true (dg 4294967296 (vl 4294967296 xs%vl 4294967296 ys)))),.one (tv (.int .i64 0))])):=by
 intro N w cs us hL
 obtain⟨rfl,hf⟩:=mF hL
 obtain⟨u,v,rfl,h1,h2⟩:=jU hf
 obtain⟨A,c,rfl,u1⟩:=fE h1 hx fun b hb=>hb.1
 obtain⟨B,d,rfl,u2⟩:=fE h2 hy fun b hb=>hb.1
 refine(vA A B _ _ c d xs ys w u1 u2 h h' h0).mono ?_
 rintro e W ⟨A1,n1,c1,A2,n2,c2,rfl,ho,ho2,hap,hb⟩
 obtain⟨y1,a1,a2,a3,a4⟩:=oF (N:=fun b=>true=false∧(b<W.heap.size∧b∉VT.fpL [])∧(N b∨w.heap.size≤b)) ho
 obtain⟨y2,b1,b2,b3,b4⟩:=oF (N:=fun b=>true=false∧(b<W.heap.size∧b∉VT.fpL [])∧(N b∨w.heap.size≤b)) ho2
 refine .mk0 (y:=[y1,y2,.w (.int .i64 0)]) rfl hb (by simp only[VT.okL,VT.ok];exact⟨a3,b3,trivial,trivial⟩) ?_ (fun b hb'=>?_) ?_
 ·simp only[VT.fpL,VT.fp,a4,b4,List.append_nil]
  rw[List.nodup_append]
  refine⟨rE ..,rE ..,fun x hx y hy e=>?_⟩
  subst e
  rcases A1 with _ | a
  ·simp[Value.ownBlock]at hx
  rcases A2 with _ | b
  ·simp[Value.ownBlock]at hy
  simp[Value.ownBlock]at hx hy
  exact hap a b rfl rfl (by rw[←hx,←hy])
 ·simp only[VT.fpL,VT.fp,a4,b4,List.append_nil]at hb'
  rcases List.mem_append.1 hb' with hb' | hb'
  ·exact ho.blk b hb'
  exact ho2.blk b hb'
 refine⟨[_,_,_],rfl,?_⟩
 exact⟨_,_,[y1],[y2,.w (.int .i64 0)],rfl,rfl,⟨y1,rfl,a1.symm,fT (fun _ _=>rfl) (fun b hb=>absurd hb.1 (by simp)) _ _ a2⟩,_,_,[y2],[.w (.int .i64 0)],rfl,rfl,⟨y2,rfl,b1.symm,fT (fun _ _=>rfl) (fun b hb=>absurd hb.1 (by simp)) _ _ b2⟩,_,_,[.w (.int .i64 0)],[],rfl,rfl,⟨_,rfl,rfl,by simp[CR,tv,OR]⟩,rfl,rfl⟩
end
section
variable {xs:List Nat}
theorem Ja {d:Nat}(hx:Lim 4294967296 xs) (h:xs.length≤1099511627776) (hd0:0<d) (hd:d<4294967296):aE true Tryz.prog 87 [] [.one (.t (sU false xs)),.one (tv (.int .u32 (d:Int)))] (aI (.tup [.one (.t (sU true (dg 4294967296 (vl 4294967296 xs/d)))),.one (tv (.int .u32 ((vl 4294967296 xs%d:Nat):Int))),.one (tv (.int .i64 0))])):=by
 intro N w cs us hL
 obtain⟨rfl,hf⟩:=mF hL
 obtain⟨u,v,rfl,h1,h2⟩:=jU hf
 obtain⟨A,c,rfl,u1⟩:=fE h1 hx fun b hb=>hb.1
 obtain rfl:=aG (dB h2)
 refine(kY A _ c d xs w u1 h hd0 hd).mono ?_
 rintro e W ⟨A,n,c,rfl,ho,hb⟩
 obtain⟨y1,a1,a2,a3,a4⟩:=oF (N:=fun b=>true=false∧(b<W.heap.size∧b∉VT.fpL [])∧(N b∨w.heap.size≤b)) ho
 refine .mk0 (y:=[y1,.w (.int .u32 ((vl 4294967296 xs%d:Nat):Int)),.w (.int .i64 0)]) rfl hb (by simp only[VT.okL,VT.ok];exact⟨a3,trivial,trivial,trivial⟩) ?_ (fun b hb'=>?_) ?_
 ·simp only[VT.fpL,VT.fp,a4,List.append_nil]
  exact rE A n c
 ·simp only[VT.fpL,VT.fp,a4,List.append_nil]at hb'
  exact ho.blk b hb'
 refine⟨[_,_,_],rfl,?_⟩
 exact⟨_,_,[y1],[.w _,.w (.int .i64 0)],rfl,rfl,⟨y1,rfl,a1.symm,fT (fun _ _=>rfl) (fun b hb=>absurd hb.1 (by simp)) _ _ a2⟩,_,_,[.w _],[.w (.int .i64 0)],rfl,rfl,⟨_,rfl,rfl,by simp[CR,tv,OR]⟩,_,_,[.w (.int .i64 0)],[],rfl,rfl,⟨_,rfl,rfl,by simp[CR,tv,OR]⟩,rfl,rfl⟩
theorem Uy {v:Nat}(hx:Lim 4294967296 xs) (h:xs.length≤1099511627776) (hv:vl 4294967296 xs=v):aE true Tryz.prog 86 [] [.one (.t (sU false xs))] (aI (.one (.t (sU true (dg 4294967296 v))))):=by
 have e:=fB (B:=4294967296) (by omega) hx
 rw[←hv,e]
 exact AM hx h
theorem AN {u d:Nat}(h:(dg 4294967296 u).length≤1099511627776) (hd0:0<d) (hd:d<4294967296):aE true Tryz.prog 87 [] [.one (.t (sU false (dg 4294967296 u))),.one (tv (.int .u32 (d:Int)))] (aI (.tup [.one (.t (sU true (dg 4294967296 (u/d)))),.one (tv (.int .u32 ((u%d:Nat):Int))),.one (tv (.int .i64 0))])):=by
 have e:=cU (B:=4294967296) (by omega) u
 have h2:=Ja (xs:=dg 4294967296 u) (d:=d) (bC (by omega) _) h hd0 hd
 rw[e]at h2
 exact h2
end
theorem Ci {l:List Nat}(hn:l.length≤9223372036854775807):aE true Tryz.prog 125 [] [.one (tv (.string (aA l))),.one (tv (.string ⟨#[48,49,50,51,52,53,54,55,56,57]⟩))] (aI (.one (tv (.string ⟨(Lib.trimS (aA l).data.toList [48,49,50,51,52,53,54,55,56,57]).toArray⟩)))):=jT fun N w us hf hN=>by
 obtain⟨u,v,rfl,h1,h2⟩:=jU hf
 obtain rfl:=aG (dB h1)
 obtain rfl:=aG (dB h2)
 exact Go.Proofs.Any.strings_Trim_laid pL (by kernel_rfl) (aA l) ⟨#[48,49,50,51,52,53,54,55,56,57]⟩ w (by rw[aH];omega) (by decide) (fun j b h=>(by decide:∀b∈([48,49,50,51,52,53,54,55,56,57]:List UInt8),b.toNat<128) b (List.mem_of_getElem? h))
theorem rF {α:Type}{p:α→Bool}:∀{l:List α},l.dropWhile p=[]↔∀x∈l,p x=true
 | []=>by simp
 | x::l=>by
  rw[List.dropWhile_cons]
  by_cases h:p x=true
  ·rw[if_pos h,rF];simp[h]
  rw[if_neg h];simp[h]
theorem Mg {l cs:List UInt8}:Lib.trimS l cs=[]↔∀x∈l,cs.contains x=true:=by
 unfold Lib.trimS Lib.trimLeftS Lib.trimRightS
 rw[rF]
 refine⟨fun h=>?_,fun h x hx=>h x (by simpa using(List.dropWhile_sublist _).subset (List.mem_reverse.1 hx))⟩
 cases hq:l.reverse.dropWhile (cs.contains ·)with
 | nil=>exact fun x hx=>rF.1 hq x (List.mem_reverse.2 hx)
 | cons y ys=>
  have h1:=h y (by rw[hq];simp)
  have h2:=List.head?_dropWhile_not (cs.contains ·) l.reverse
  rw[hq]at h2
  simp at h2
  exact absurd (by simpa using h1) h2
theorem vG {xs:List Nat}{m:Nat}(hx:Lim 4294967296 xs) (h:xs.length≤1099511627776) (hm:m<4294967296):aE true Tryz.prog 166 [] [.one (.t (sU false xs)),.one (tv (.int .u32 (m:Int)))] (aI (.one (.t (sU true (dg 4294967296 (vl 4294967296 xs*m)))))):=iO fun N w us hf hN=>by
 obtain⟨u,v,rfl,h1,h2⟩:=jU hf
 obtain⟨A,c,rfl,u1⟩:=fE h1 hx hN
 obtain rfl:=aG (dB h2)
 exact pX A _ c m xs w u1 h hm
def Zg (a:Zi) (k:Int):Prop:=Lim 4294967296 a.x∧a.x.length≤300000000000∧cX a.s a.x=k
theorem Zn.g {a:Zi}{k:Int}(h:Zn a k):Zg a k:=⟨h.1,Nat.le_trans h.2.1 (by omega),h.2.2⟩
theorem Zg.of {k:Int}(h:(dg 4294967296 k.natAbs).length≤300000000000):Zg (.of k) k:=⟨bC (by omega) _,h,oE k⟩
theorem Zg.len {a:Zi}{k:Int}(h:Zg a k):(dg 4294967296 k.natAbs).length≤300000000000:=by
 obtain⟨h1,h2,rfl⟩:=h
 exact Nat.le_trans (sC h1) h2
theorem Zg.wrong {a:Zi}{k:Int}(h:Zg a k) (hr:cI a.s a.x=false):k=0:=by
 obtain⟨h1,h2,rfl⟩:=h
 exact Ix hr
theorem Mh {a:Zi}{k:Int}(h:Zg a k) (hr:cI a.s a.x=true):gF a=kF k:=by
 obtain⟨h1,h2,rfl⟩:=h
 unfold gF kF
 rw[xA h1 hr,oD h1 hr]
theorem xC {a:Zi}{k:Int}(ha:Zg a k):aE true Tryz.prog 156 [] [gF a] (aI (.one (tv (.bool (cI a.s a.x))))):=by
 refine bQ Tryz.func156 rfl Tryz.ntmps156 rfl aB rfl fun N w c0 h0=>?_
 have hal:=ha.2.1
 refine sq ?_;refine rl ?_;refine bx 0 ?_;refine o1 ?_;refine nl ?_;refine sq ?_;refine rl ?_;refine o1 ?_;refine ld ?_;refine o1 ?_;refine o1 ?_;refine nl ?_;refine sq ?_;refine rl ?_
 (iterate 3 refine o1 ?_);refine WL.split (t:=9) rfl (fun h1=>?_) (fun h1=>?_)
 ·refine o1 ?_;refine ld ?_;refine WL.splitb (t:=11) rfl (fun h2=>?_) (fun h2=>?_)
  ·(iterate 6 refine o1 ?_);refine WL.split (t:=17) rfl (fun h3=>?_) (fun h3=>?_)
   ·refine o1 ?_;refine ld ?_;refine o1 ?_;refine o1 ?_;refine WL.cast (t:=21) (u':=.int .i64 ((a.x.length-1:Nat):Int)) rfl (bO (by omega)) ?_
    refine o1 ?_;refine xP ([.v (.int .u32 ((nth a.x (a.x.length-1):Nat):Int))]) (Ch a.x (k:=a.x.length-1) (by omega)) ?_
    (iterate 4 refine o1 ?_);refine nl ?_;refine rt ?_;refine en (.inl rfl) rfl (bI (aZ _)) (by decide) (fun _=>trivial) (congrArg (fun b=>FV.one (tv (.bool b))) ?_)
    rw[pK (by omega)];simp_all
   (iterate 7 refine dE ?_);(iterate 3 refine o1 ?_);refine nl ?_;refine rt ?_
   refine en (.inl rfl) rfl (bI (aZ _)) (by decide) (fun _=>trivial) (congrArg (fun b=>FV.one (tv (.bool b))) ?_)
   rw[pK (by omega)];simp_all
  (iterate 3 refine o1 ?_);(iterate 11 refine dE ?_);refine o1 ?_;refine o1 ?_;refine nl ?_;refine rt ?_
  refine en (.inl rfl) rfl (bI (aZ _)) (by decide) (fun _=>trivial) (congrArg (fun b=>FV.one (tv (.bool b))) ?_)
  rw[pK (by omega)];simp_all
 (iterate 3 refine dE ?_);(iterate 5 refine o1 ?_);refine WL.split (t:=17) rfl (fun h4=>?_) (fun h4=>?_)
 ·refine o1 ?_;refine ld ?_;refine o1 ?_;refine o1 ?_;refine WL.cast (t:=21) (u':=.int .i64 ((a.x.length-1:Nat):Int)) rfl (bO (by omega)) ?_
  refine o1 ?_;refine xP ([.v (.int .u32 ((nth a.x (a.x.length-1):Nat):Int))]) (Ch a.x (k:=a.x.length-1) (by omega)) ?_
  (iterate 4 refine o1 ?_);refine nl ?_;refine rt ?_;refine en (.inl rfl) rfl (bI (aZ _)) (by decide) (fun _=>trivial) (congrArg (fun b=>FV.one (tv (.bool b))) ?_)
  first | exact(vD rfl (by omega)).symm | (unfold cI;simp_all;try omega)
 (iterate 7 refine dE ?_);(iterate 3 refine o1 ?_);refine nl ?_;refine rt ?_
 refine en (.inl rfl) rfl (bI (aZ _)) (by decide) (fun _=>trivial) (congrArg (fun b=>FV.one (tv (.bool b))) ?_)
 first | exact(vD rfl (by omega)).symm | (unfold cI;simp_all;try omega)
theorem cJ {a:Zi}{k:Int}(ha:Zg a k):aE false Tryz.prog 118 [] [gF a] (aI (kF k)):=by
 refine bQ Tryz.func118 rfl Tryz.ntmps118 rfl aB rfl fun N w c0 h0=>?_
 refine sq ?_;refine rl ?_;refine bx 0 ?_;refine al 1 ?_;refine nl ?_;refine sq ?_;refine sq ?_;refine rl ?_;refine ld ?_
 refine ca (xC ha) Ib ⟨aD rfl,rfl⟩ (.one (tv (.bool (cI a.s a.x)))) ?_;refine WL.splitb (t:=4) rfl (fun h1=>?_) (fun h1=>?_)
 ·refine o1 ?_;refine nl ?_;refine kH rfl ?_;refine sk ?_;refine sq ?_;refine rl ?_;refine ld ?_;refine o1 ?_;refine st ?_;refine nl ?_;refine rt ?_
  exact en (.inl rfl) rfl (bI (.agg (.read _ (l:=[.v (.bool a.s),sU false a.x]) rfl))) (by decide) (fun h=>by cases h) (Mh ha h1)
 refine o1 ?_;refine nl ?_;refine jH rfl ?_;refine sq ?_;refine rl ?_;refine o1 ?_;refine st ?_;refine nl ?_;refine rt ?_
 exact en (.inl rfl) rfl (bI (.agg (.cons (.id rfl) (.cons .nilf .nil)))) (by decide) (fun h=>by cases h) (by rw[ha.wrong h1];exact Uu)
theorem Mi {b:Bool}{m:Nat}{K:Int}(hK:cP b m=K):aE false Tryz.prog 117 [] [.one (tv (.bool b)),.one (.t (sU false (dg 4294967296 m)))] (aI (kF K)):=by
 refine bQ Tryz.func117 rfl Tryz.ntmps117 rfl aB rfl fun N w c0 h0=>?_
 refine sq ?_;refine rl ?_;refine al 0 ?_;refine nl ?_;refine sq ?_;refine rl ?_;refine o1 ?_;refine o1 ?_;refine WL.splitb (t:=6) rfl (fun h1=>?_) (fun h1=>?_)
 ·(iterate 6 refine o1 ?_);refine st ?_;refine nl ?_;refine rt ?_
  exact en (.inl rfl) rfl (bI (.agg (.cons (.id rfl) (.cons (.id rfl) .nil)))) (by decide) (fun h=>by cases h) (hK▸congrArg sL (vE (by rw[oC,h1,Bool.true_and,←iN (m:=m) rfl];exact decide_eq_decide.2 (by omega)) (lN _ _).symm))
 (iterate 3 refine dE ?_);(iterate 3 refine o1 ?_);refine st ?_;refine nl ?_;refine rt ?_
 exact en (.inl rfl) rfl (bI (.agg (.cons (.id rfl) (.cons (.id rfl) .nil)))) (by decide) (fun h=>by cases h) (hK▸congrArg sL (vE (by rw[oC,h1];rfl) (lN _ _).symm))
theorem eX {b:Bool}{m:Nat}{K:Int}(hK:cP b m=K):pI false Tryz.prog 117 [⟨115,1,(aJ (dg 4294967296 m)).map .t⟩] [.one (tv (.bool b)),.one (.sl 0 0 (dg 4294967296 m).length)] (· =kO K):=by
 refine KB Tryz.func117 rfl Tryz.ntmps117 rfl aB rfl fun N M w c0 h0=>?_
 refine sq ?_;refine rl ?_;refine al 1 ?_;refine nl ?_;refine sq ?_;refine rl ?_;refine o1 ?_;refine o1 ?_;refine WL.splitb (t:=6) rfl (fun h1=>?_) (fun h1=>?_)
 ·(iterate 6 refine o1 ?_);refine st ?_;refine nl ?_;refine rt ?_
  exact wV (en (.inl rfl) rfl (bI (.agg (.cons (.id rfl) (.cons (.sl (trs:=aJ (dg 4294967296 m)) rfl rfl (bE _) (aQ _)) .nil)))) (by decide) (fun h=>by cases h) (hK▸vE (by rw[oC,h1,Bool.true_and,←iN (m:=m) rfl];exact decide_eq_decide.2 (by omega)) (lN _ _).symm))
 (iterate 3 refine dE ?_);(iterate 3 refine o1 ?_);refine st ?_;refine nl ?_;refine rt ?_
 exact wV (en (.inl rfl) rfl (bI (.agg (.cons (.id rfl) (.cons (.sl (trs:=aJ (dg 4294967296 m)) rfl rfl (bE _) (aQ _)) .nil)))) (by decide) (fun h=>by cases h) (hK▸vE (by rw[oC,h1];rfl) (lN _ _).symm))
theorem Cj {k:Int}:aE false Tryz.prog 121 [] [kF k] (aI (kF (-k))):=by
 refine bQ Tryz.func121 rfl Tryz.ntmps121 rfl aB rfl fun N w c0 h0=>?_
 refine sq ?_;refine rl ?_;refine bx 0 ?_;refine al 1 ?_;refine nl ?_;refine sq ?_;refine rl ?_;refine o1 ?_;refine o1 ?_;refine ld ?_;(iterate 3 refine o1 ?_);refine ld ?_
 refine ca (Mi (m:=k.natAbs) (K:=-k) (Uq k)) iE ⟨a1 rfl,a1 rfl,rfl⟩ (kF (-k)) ?_;refine o1 ?_;refine st ?_;refine nl ?_;refine rt ?_
 exact en (.inl rfl) rfl (bI (.agg (.cons (.id rfl) (.cons (.id rfl) .nil)))) (by decide) (fun h=>by cases h) rfl
theorem Rq {a:Zi}{k:Int}(ha:Zg a k):aE true Tryz.prog 70 [] [gF a] (aI (kO (-(k)))):=by
 refine bQ Tryz.func70 rfl Tryz.ntmps70 rfl aB rfl fun N w c0 h0=>?_
 have hkl:=ha.len
 refine sq ?_;refine rl ?_;refine bx 0 ?_;refine al 1 ?_;refine nl ?_;refine sq ?_;refine rl ?_;refine ld ?_;refine ca (cJ ha) bV ⟨aD rfl,rfl⟩ (kF (k)) ?_
 refine ca (Cj (k:=k)) Ra ⟨aD rfl,rfl⟩ (kF (-(k))) ?_;refine al 2 ?_;refine st ?_;refine nl ?_;refine sq ?_;refine rd [0,1,2] (fun i=>[8].contains i) mixed ?_
 refine dv 0 ?_;refine dv 1 ?_;refine bD 2 ?_;refine dv 3 ?_;refine dv 4 ?_;refine bD 5 ?_
 refine mU 3 6 rfl (Gh (bC (by omega) _) (by have:=mG k;omega)) Rb ⟨a1 rfl,rfl⟩ ?_
 refine df 7 ?_;refine dst 8 ?_;refine bJ ?_;refine rt ?_
 exact en (.inl rfl) rfl (bI (.agg (.cons (.id rfl) (.cons (.sl (trs:=aJ (dg 4294967296 (-(k)).natAbs)) rfl rfl (bE _) (aQ _)) .nil)))) (by decide) (fun _=>eW (-(k))) rfl
theorem EQ {a:Zi}{k:Int}(ha:Zg a k):aE true Tryz.prog 71 [] [gF a] (aI (kO (((k.natAbs:Nat):Int)))):=by
 refine bQ Tryz.func71 rfl Tryz.ntmps71 rfl aB rfl fun N w c0 h0=>?_
 have hkl:=ha.len
 refine sq ?_;refine rl ?_;refine bx 0 ?_;refine al 1 ?_;refine nl ?_;refine sq ?_;refine rl ?_;refine ld ?_;refine ca (cJ ha) bV ⟨aD rfl,rfl⟩ (kF (k)) ?_;refine o1 ?_;refine o1 ?_
 refine gW 2 (Gh (bC (by omega) _) (by have:=mG k;omega)) Rb ⟨a1 rfl,rfl⟩ ?_
 refine o1 ?_;refine st ?_;refine nl ?_;refine rt ?_
 exact en (.inl rfl) rfl (bI (.agg (.cons (.id rfl) (.cons (.sl (trs:=aJ (dg 4294967296 k.natAbs)) rfl rfl (bE _) (aQ _)) .nil)))) (by decide) (fun _=>Uv _ _) (vE (by unfold aW;simp) (by omega))
theorem Mj {k k':Int}(hk:(dg 4294967296 k.natAbs).length≤500000000000) (hk':(dg 4294967296 k'.natAbs).length≤500000000000):aE true Tryz.prog 162 [] [kF k,kF k'] (aI (kO (k+k'))):=by
 refine bQ Tryz.func162 rfl Tryz.ntmps162 rfl aB rfl fun N w c0 h0=>?_
 have hal:=Gg (xs:=dg 4294967296 k.natAbs) (ys:=dg 4294967296 k'.natAbs) (bC (by omega) _) (bC (by omega) _)
 rw[bH,bH]at hal;refine sq ?_;refine rl ?_;refine bx 0 ?_;refine bx 1 ?_;refine al 2 ?_;refine nl ?_;refine sq ?_;refine sq ?_;refine rl ?_;refine o1 ?_;refine o1 ?_
 refine ld ?_;refine o1 ?_;refine o1 ?_;refine ld ?_;refine o1 ?_;refine nl ?_;refine jG rfl (fun h1=>?_) (fun h1=>?_)
 ·refine sq ?_;refine rd [0,1,2] (fun i=>[11].contains i) mixed ?_
  refine dv 0 ?_;refine dv 1 ?_;refine bD 2 ?_;refine dv 3 ?_;refine dv 4 ?_;refine bD 5 ?_;refine dv 6 ?_;refine dv 7 ?_;refine bD 8 ?_
  have hA:aE true Tryz.prog 165 [] [.one (.t (sU false (dg 4294967296 k.natAbs))),.one (.t (sU false (dg 4294967296 k'.natAbs)))] (aI (.one (.t (sU true (dg 4294967296 (k.natAbs+k'.natAbs)))))):=by have h9:=Iy (bC (by omega) k.natAbs) (bC (by omega) k'.natAbs) (by omega) (by omega);rwa[bH,bH]at h9
  refine mU 3 9 rfl hA rZ ⟨a1 rfl,a1 rfl,rfl⟩ ?_
  refine uR 10 4 [3] rfl (eX (m:=(k.natAbs+k'.natAbs)) (K:=k+k') (Me rfl (eq_of_beq h1))) iE ⟨cR rfl,rfl⟩ ⟨rfl,rfl,rfl⟩ ⟨rfl,rfl,rfl,trivial⟩ ?_;refine dst 11 ?_
  refine bJ ?_;refine rt ?_
  exact en (.inl rfl) rfl (bI (.agg (.cons (.id rfl) (.cons (.sl (trs:=aJ (dg 4294967296 (k+k').natAbs)) rfl rfl (bE _) (aQ _)) .nil)))) (by decide) (fun _=>eW (k+k')) rfl
 refine sk ?_;refine sq ?_;refine sq ?_;refine rl ?_;refine o1 ?_;refine o1 ?_;refine ld ?_;refine o1 ?_;refine o1 ?_;refine ld ?_
 refine ca (EO (bC (by omega) _) (bC (by omega) _)) DZ ⟨a1 rfl,a1 rfl,rfl⟩ (.one (tv (.int .i64 (jB (vl 4294967296 (dg 4294967296 (k).natAbs)) (vl 4294967296 (dg 4294967296 (k').natAbs)))))) ?_
 refine o1 ?_;refine nl ?_;refine cY rfl (fun h2=>?_) (fun h2=>?_)
 ·refine rl ?_;refine ld ?_;refine ld ?_;refine st ?_;refine st ?_;refine nl ?_;refine sq ?_;refine rl ?_;refine o1 ?_;refine o1 ?_;refine ld ?_;refine o1 ?_;refine o1 ?_;refine ld ?_
  have hlt:k.natAbs<k'.natAbs:=Decidable.byContradiction fun h8=>by rw[bH,bH]at h2;rcases Nat.lt_or_ge k'.natAbs k.natAbs with h7 | h7;(rw[iM h7]at h2;omega);(rw[nY (by omega)]at h2;omega)
  have hS:aE true Tryz.prog 175 [] [.one (.t (sU false (dg 4294967296 k'.natAbs))),.one (.t (sU false (dg 4294967296 k.natAbs)))] (aI (.tup [.one (.t (sU true (dg 4294967296 (k'.natAbs-k.natAbs)))),.one (tv (.int .i64 0))])):=by have h9:=Iz (bC (by omega) k'.natAbs) (bC (by omega) k.natAbs) (by omega) (by rw[bH,bH];omega);rwa[bH,bH]at h9
  refine gW 3 hS Ic ⟨a1 rfl,a1 rfl,rfl⟩ ?_;(iterate 5 refine o1 ?_);refine nl ?_;refine sq ?_;refine rl ?_;refine o1 ?_;refine o1 ?_;refine ld ?_;refine o1 ?_
  refine cm 4 [3] (eX (m:=(k'.natAbs-k.natAbs)) (K:=k+k') (Ut rfl (ne_of_beq_false h1) hlt)) iE ⟨cR rfl,rfl⟩ ⟨rfl,rfl,rfl⟩ ?_;refine st ?_;refine nl ?_;refine rt ?_
  exact en (.inl rfl) rfl (bI (.agg (.cons (.id rfl) (.cons (.sl (trs:=aJ (dg 4294967296 (k+k').natAbs)) rfl rfl (bE _) (aQ _)) .nil)))) (by decide) (fun _=>eW (k+k')) rfl
 refine sk ?_;refine sq ?_;refine rl ?_;refine o1 ?_;refine o1 ?_;refine ld ?_;refine o1 ?_;refine o1 ?_;refine ld ?_
 have hlt:¬k.natAbs<k'.natAbs:=fun h8=>h2 (by rw[bH,bH,lM h8];omega)
 have hS:aE true Tryz.prog 175 [] [.one (.t (sU false (dg 4294967296 k.natAbs))),.one (.t (sU false (dg 4294967296 k'.natAbs)))] (aI (.tup [.one (.t (sU true (dg 4294967296 (k.natAbs-k'.natAbs)))),.one (tv (.int .i64 0))])):=by have h9:=Iz (bC (by omega) k.natAbs) (bC (by omega) k'.natAbs) (by omega) (by rw[bH,bH];omega);rwa[bH,bH]at h9
 refine gW 3 hS Ic ⟨a1 rfl,a1 rfl,rfl⟩ ?_;(iterate 5 refine o1 ?_);refine nl ?_;refine sq ?_;refine rl ?_;refine o1 ?_;refine o1 ?_;refine ld ?_;refine o1 ?_
 refine cm 4 [3] (eX (m:=(k.natAbs-k'.natAbs)) (K:=k+k') (Us rfl (ne_of_beq_false h1) hlt)) iE ⟨cR rfl,rfl⟩ ⟨rfl,rfl,rfl⟩ ?_;refine st ?_;refine nl ?_;refine rt ?_
 exact en (.inl rfl) rfl (bI (.agg (.cons (.id rfl) (.cons (.sl (trs:=aJ (dg 4294967296 (k+k').natAbs)) rfl rfl (bE _) (aQ _)) .nil)))) (by decide) (fun _=>eW (k+k')) rfl
theorem zG {a b:Zi}{k k':Int}(ha:Zg a k) (hb:Zg b k'):aE true Tryz.prog 120 [] [gF a,gF b] (aI (kO (k+k'))):=by
 refine bQ Tryz.func120 rfl Tryz.ntmps120 rfl aB rfl fun N w c0 h0=>?_
 have hkl:=ha.len
 have hkl':=hb.len
 refine sq ?_;refine rl ?_;refine bx 0 ?_;refine bx 1 ?_;refine al 2 ?_;refine nl ?_;refine sq ?_;refine rd [0,1,2] (fun i=>[5].contains i) mixed ?_
 refine bD 0 ?_;refine bD 2 ?_;refine aN 1 rfl (cJ ha) bV ⟨aD rfl,rfl⟩ (kF (k)) ?_;refine aN 3 rfl (cJ hb) bV ⟨aD rfl,rfl⟩ (kF (k')) ?_
 refine mU 3 4 rfl (Mj (k:=k) (k':=k') (by omega) (by omega)) Re ⟨aD rfl,aD rfl,rfl⟩ ?_
 refine dst 5 ?_;refine bJ ?_;refine rt ?_
 exact en (.inl rfl) rfl (bI (.agg (.cons (.id rfl) (.cons (.sl (trs:=aJ (dg 4294967296 ((k+k')).natAbs)) rfl rfl (bE _) (aQ _)) .nil)))) (by decide) (fun _=>eW ((k+k'))) rfl
theorem ER {a b:Zi}{k k':Int}(ha:Zg a k) (hb:Zg b k'):aE true Tryz.prog 116 [] [gF a,gF b] (aI (kO (k-k'))):=by
 refine bQ Tryz.func116 rfl Tryz.ntmps116 rfl aB rfl fun N w c0 h0=>?_
 have hkl:=ha.len
 have hkl':=hb.len
 have hkn:=mG k'
 refine sq ?_;refine rl ?_;refine bx 0 ?_;refine bx 1 ?_;refine al 2 ?_;refine nl ?_;refine sq ?_;refine rd [0,1,2] (fun i=>[6].contains i) mixed ?_
 refine bD 0 ?_;refine bD 2 ?_;refine aN 1 rfl (cJ ha) bV ⟨aD rfl,rfl⟩ (kF (k)) ?_;refine aN 3 rfl (cJ hb) bV ⟨aD rfl,rfl⟩ (kF (k')) ?_
 refine aN 4 rfl (Cj (k:=k')) Ra ⟨aD rfl,rfl⟩ (kF (-(k'))) ?_;refine mU 3 5 rfl (Mj (k:=k) (k':=(-(k'))) (by omega) (by omega)) Re ⟨aD rfl,aD rfl,rfl⟩ ?_
 refine dst 6 ?_;refine bJ ?_;refine rt ?_
 exact en (.inl rfl) rfl (bI (.agg (.cons (.id rfl) (.cons (.sl (trs:=aJ (dg 4294967296 ((k+(-(k')))).natAbs)) rfl rfl (bE _) (aQ _)) .nil)))) (by decide) (fun _=>eW ((k+(-(k'))))) (by rw[Int.sub_eq_add_neg];rfl)
theorem oG {a:Zi}{k:Int}(ha:Zg a k):aE true Tryz.prog 72 [] [gF a] (aI (.one (tv (.int .i64 k.sign)))):=by
 refine bQ Tryz.func72 rfl Tryz.ntmps72 rfl aB rfl fun N w c0 h0=>?_
 refine sq ?_;refine rl ?_;refine bx 0 ?_;refine o1 ?_;refine nl ?_;refine sq ?_;refine sq ?_;refine rl ?_;refine ld ?_;refine ca (cJ ha) bV ⟨aD rfl,rfl⟩ (kF (k)) ?_;refine al 1 ?_
 refine st ?_;refine nl ?_;refine bl ?_;refine sq ?_;refine rl ?_;refine o1 ?_;refine o1 ?_;refine ld ?_;refine o1 ?_;refine nl ?_;refine jG rfl (fun h1=>?_) (fun h1=>?_)
 ·refine sq ?_;refine rl ?_;refine o1 ?_;refine nl ?_;refine rt ?_;refine en (.inl rfl) rfl (bI (aZ _)) (by decide) (fun _=>trivial) (congrArg (fun z=>FV.one (tv (.int .i64 z))) ?_)
  have h9:k<0:=of_decide_eq_true h1
  exact(Int.sign_eq_neg_one_of_neg h9).symm
 refine sq ?_;refine rl ?_;refine o1 ?_;refine o1 ?_;refine ld ?_;(iterate 3 refine o1 ?_);refine nl ?_;refine cY rfl (fun h2=>?_) (fun h2=>?_)
 ·refine sq ?_;refine rl ?_;refine o1 ?_;refine nl ?_;refine rt ?_;refine en (.inl rfl) rfl (bI (aZ _)) (by decide) (fun _=>trivial) (congrArg (fun z=>FV.one (tv (.int .i64 z))) ?_)
  have h9:¬k<0:=of_decide_eq_false h1
  have h8:=iN (m:=k.natAbs) rfl
  have h7:decide (0<k.natAbs)=true:=by rw[←h8];exact decide_eq_true (by omega)
  have h6:=of_decide_eq_true h7
  exact(Int.sign_eq_one_of_pos (by omega)).symm
 refine sk ?_;refine sq ?_;refine rl ?_;refine o1 ?_;refine nl ?_;refine rt ?_
 refine en (.inl rfl) rfl (bI (aZ _)) (by decide) (fun _=>trivial) (congrArg (fun z=>FV.one (tv (.int .i64 z))) ?_)
 have h9:¬k<0:=of_decide_eq_false h1
 have h8:=iN (m:=k.natAbs) rfl
 have h7:decide (0<k.natAbs)=false:=by rw[←h8];exact decide_eq_false (by omega)
 have h6:=of_decide_eq_false h7
 obtain rfl:k=0:=by omega
 rfl
theorem zH {a b:Zi}{k k':Int}(ha:Zg a k) (hb:Zg b k') (hs:(dg 4294967296 (k-k').natAbs).length≤300000000000):aE true Tryz.prog 61 [] [gF a,gF b] (aI (.one (tv (.int .i64 (k-k').sign)))):=by
 refine bQ Tryz.func61 rfl Tryz.ntmps61 rfl aB rfl fun N w c0 h0=>?_
 have hkl:=ha.2.1;have hkl2:=ha.len;have hkl3:=hb.len
 refine sq ?_;refine rl ?_;refine bx 0 ?_;refine bx 1 ?_;refine o1 ?_;refine nl ?_;refine sq ?_;refine rl ?_;refine ld ?_;refine ld ?_
 refine ca (ER ha hb) DP ⟨aD rfl,aD rfl,rfl⟩ (kF (k-k')) ?_;refine ca (oG (Zg.of (k:=k-k') hs)) wT ⟨aD rfl,rfl⟩ (.one (tv (.int .i64 (k-k').sign))) ?_;refine o1 ?_
 refine nl ?_;refine rt ?_;exact en (.inl rfl) rfl (bI (aZ _)) (by decide) (fun _=>trivial) rfl
theorem zI {a b:Zi}{k k':Int}(ha:Zg a k) (hb:Zg b k'):aE true Tryz.prog 65 [] [gF a,gF b] (aI (kO (k*k'))):=by
 refine bQ Tryz.func65 rfl Tryz.ntmps65 rfl aB rfl fun N w c0 h0=>?_
 have hkl:=ha.len
 have hkl':=hb.len
 refine sq ?_;refine rl ?_;refine bx 0 ?_;refine bx 1 ?_;refine al 2 ?_;refine nl ?_
 refine md (γ:=Unit) (fun _=>dD [(4,.one (.pt 0 0)),(5,.one (.pt 1 0)),(6,.one (.pt 2 0))]) (fun _=>([⟨25,0,[tv (.bool false),tv (.slice none 0 0)]⟩,⟨155,0,[tv (.bool (aW k)),.t (sU false (dg 4294967296 k.natAbs))]⟩,⟨155,0,[tv (.bool (aW k')),.t (sU false (dg 4294967296 k'.natAbs))]⟩]:List Ob).map some) (fun _=>True) ?_ fun _ _=>?_
 ·refine rd [0,1,2] (fun i=>[7].contains i) mixed ?_
  refine bD 0 ?_;refine bD 2 ?_;refine WO.three (i:=1) (j:=4) (m:=5) (by kernel_rfl) ?_ ?_ ?_
  ·refine iA 1 rfl (cJ ha) bV ⟨aD rfl,rfl⟩ (kF (k)) ?_;refine WO.three (i:=3) (j:=4) (m:=5) (by kernel_rfl) ?_ ?_ ?_
   ·refine iA 3 rfl (cJ hb) bV ⟨aD rfl,rfl⟩ (kF (k')) ?_;refine WO.two (i:=4) (j:=5) (by kernel_rfl) ?_ ?_
    ·refine eP (key:=3) 4 rfl rfl aB rfl ⟨rfl,rfl,rfl,trivial⟩ ?_;refine kV (key:=4) 5 (by kernel_rfl) rfl rfl aB rfl ⟨rfl,rfl,rfl,trivial⟩ ?_
     refine cF 6 (by kernel_rfl) rfl rfl aB rfl rfl rfl rfl ⟨rfl,rfl,rfl,trivial⟩ ?_
     refine dst 7 ?_;refine bJ ?_;exact⟨(),trivial,bS h0 [2,3,4] _ _ (by decide) ⟨rfl,rfl,rfl,trivial⟩ ⟨oe rfl rfl,oe rfl rfl,oe rfl rfl,rfl⟩⟩
    refine eP (key:=3) 5 rfl rfl aB rfl ⟨rfl,rfl,rfl,trivial⟩ ?_;refine kV (key:=4) 4 (by kernel_rfl) rfl rfl aB rfl ⟨rfl,rfl,rfl,trivial⟩ ?_
    refine cF 6 (by kernel_rfl) rfl rfl aB rfl rfl rfl rfl ⟨rfl,rfl,rfl,trivial⟩ ?_
    refine dst 7 ?_;refine bJ ?_;exact⟨(),trivial,bS h0 [2,4,3] _ _ (by decide) ⟨rfl,rfl,rfl,trivial⟩ ⟨oe rfl rfl,oe rfl rfl,oe rfl rfl,rfl⟩⟩
   ·refine eP (key:=3) 4 rfl rfl aB rfl ⟨rfl,rfl,rfl,trivial⟩ ?_;refine WO.two (i:=3) (j:=5) (by kernel_rfl) ?_ ?_
    ·refine iA 3 rfl (cJ hb) bV ⟨aD rfl,rfl⟩ (kF (k')) ?_;refine kV (key:=4) 5 (by kernel_rfl) rfl rfl aB rfl ⟨rfl,rfl,rfl,trivial⟩ ?_
     refine cF 6 (by kernel_rfl) rfl rfl aB rfl rfl rfl rfl ⟨rfl,rfl,rfl,trivial⟩ ?_
     refine dst 7 ?_;refine bJ ?_;exact⟨(),trivial,bS h0 [2,3,4] _ _ (by decide) ⟨rfl,rfl,rfl,trivial⟩ ⟨oe rfl rfl,oe rfl rfl,oe rfl rfl,rfl⟩⟩
    refine eP (key:=4) 5 rfl rfl aB rfl ⟨rfl,rfl,rfl,trivial⟩ ?_;refine aN 3 rfl (cJ hb) bV ⟨aD rfl,rfl⟩ (kF (k')) ?_
    refine cF 6 (by kernel_rfl) rfl rfl aB rfl rfl rfl rfl ⟨rfl,rfl,rfl,trivial⟩ ?_
    refine dst 7 ?_;refine bJ ?_;exact⟨(),trivial,bS h0 [2,3,4] _ _ (by decide) ⟨rfl,rfl,rfl,trivial⟩ ⟨oe rfl rfl,oe rfl rfl,oe rfl rfl,rfl⟩⟩
   refine eP (key:=3) 5 rfl rfl aB rfl ⟨rfl,rfl,rfl,trivial⟩ ?_;refine WO.two (i:=3) (j:=4) (by kernel_rfl) ?_ ?_
   ·refine iA 3 rfl (cJ hb) bV ⟨aD rfl,rfl⟩ (kF (k')) ?_;refine kV (key:=4) 4 (by kernel_rfl) rfl rfl aB rfl ⟨rfl,rfl,rfl,trivial⟩ ?_
    refine cF 6 (by kernel_rfl) rfl rfl aB rfl rfl rfl rfl ⟨rfl,rfl,rfl,trivial⟩ ?_
    refine dst 7 ?_;refine bJ ?_;exact⟨(),trivial,bS h0 [2,4,3] _ _ (by decide) ⟨rfl,rfl,rfl,trivial⟩ ⟨oe rfl rfl,oe rfl rfl,oe rfl rfl,rfl⟩⟩
   refine eP (key:=4) 4 rfl rfl aB rfl ⟨rfl,rfl,rfl,trivial⟩ ?_;refine aN 3 rfl (cJ hb) bV ⟨aD rfl,rfl⟩ (kF (k')) ?_
   refine cF 6 (by kernel_rfl) rfl rfl aB rfl rfl rfl rfl ⟨rfl,rfl,rfl,trivial⟩ ?_
   refine dst 7 ?_;refine bJ ?_;exact⟨(),trivial,bS h0 [2,4,3] _ _ (by decide) ⟨rfl,rfl,rfl,trivial⟩ ⟨oe rfl rfl,oe rfl rfl,oe rfl rfl,rfl⟩⟩
  ·refine eP (key:=3) 4 rfl rfl aB rfl ⟨rfl,rfl,rfl,trivial⟩ ?_;refine WO.two (i:=1) (j:=5) (by kernel_rfl) ?_ ?_
   ·refine iA 1 rfl (cJ ha) bV ⟨aD rfl,rfl⟩ (kF (k)) ?_;refine WO.two (i:=3) (j:=5) (by kernel_rfl) ?_ ?_
    ·refine iA 3 rfl (cJ hb) bV ⟨aD rfl,rfl⟩ (kF (k')) ?_;refine kV (key:=4) 5 (by kernel_rfl) rfl rfl aB rfl ⟨rfl,rfl,rfl,trivial⟩ ?_
     refine cF 6 (by kernel_rfl) rfl rfl aB rfl rfl rfl rfl ⟨rfl,rfl,rfl,trivial⟩ ?_
     refine dst 7 ?_;refine bJ ?_;exact⟨(),trivial,bS h0 [2,3,4] _ _ (by decide) ⟨rfl,rfl,rfl,trivial⟩ ⟨oe rfl rfl,oe rfl rfl,oe rfl rfl,rfl⟩⟩
    refine eP (key:=4) 5 rfl rfl aB rfl ⟨rfl,rfl,rfl,trivial⟩ ?_;refine aN 3 rfl (cJ hb) bV ⟨aD rfl,rfl⟩ (kF (k')) ?_
    refine cF 6 (by kernel_rfl) rfl rfl aB rfl rfl rfl rfl ⟨rfl,rfl,rfl,trivial⟩ ?_
    refine dst 7 ?_;refine bJ ?_;exact⟨(),trivial,bS h0 [2,3,4] _ _ (by decide) ⟨rfl,rfl,rfl,trivial⟩ ⟨oe rfl rfl,oe rfl rfl,oe rfl rfl,rfl⟩⟩
   refine eP (key:=4) 5 rfl rfl aB rfl ⟨rfl,rfl,rfl,trivial⟩ ?_;refine aN 1 rfl (cJ ha) bV ⟨aD rfl,rfl⟩ (kF (k)) ?_;refine aN 3 rfl (cJ hb) bV ⟨aD rfl,rfl⟩ (kF (k')) ?_
   refine cF 6 (by kernel_rfl) rfl rfl aB rfl rfl rfl rfl ⟨rfl,rfl,rfl,trivial⟩ ?_
   refine dst 7 ?_;refine bJ ?_;exact⟨(),trivial,bS h0 [2,3,4] _ _ (by decide) ⟨rfl,rfl,rfl,trivial⟩ ⟨oe rfl rfl,oe rfl rfl,oe rfl rfl,rfl⟩⟩
  refine eP (key:=3) 5 rfl rfl aB rfl ⟨rfl,rfl,rfl,trivial⟩ ?_;refine WO.two (i:=1) (j:=4) (by kernel_rfl) ?_ ?_
  ·refine iA 1 rfl (cJ ha) bV ⟨aD rfl,rfl⟩ (kF (k)) ?_;refine WO.two (i:=3) (j:=4) (by kernel_rfl) ?_ ?_
   ·refine iA 3 rfl (cJ hb) bV ⟨aD rfl,rfl⟩ (kF (k')) ?_;refine kV (key:=4) 4 (by kernel_rfl) rfl rfl aB rfl ⟨rfl,rfl,rfl,trivial⟩ ?_
    refine cF 6 (by kernel_rfl) rfl rfl aB rfl rfl rfl rfl ⟨rfl,rfl,rfl,trivial⟩ ?_
    refine dst 7 ?_;refine bJ ?_;exact⟨(),trivial,bS h0 [2,4,3] _ _ (by decide) ⟨rfl,rfl,rfl,trivial⟩ ⟨oe rfl rfl,oe rfl rfl,oe rfl rfl,rfl⟩⟩
   refine eP (key:=4) 4 rfl rfl aB rfl ⟨rfl,rfl,rfl,trivial⟩ ?_;refine aN 3 rfl (cJ hb) bV ⟨aD rfl,rfl⟩ (kF (k')) ?_
   refine cF 6 (by kernel_rfl) rfl rfl aB rfl rfl rfl rfl ⟨rfl,rfl,rfl,trivial⟩ ?_
   refine dst 7 ?_;refine bJ ?_;exact⟨(),trivial,bS h0 [2,4,3] _ _ (by decide) ⟨rfl,rfl,rfl,trivial⟩ ⟨oe rfl rfl,oe rfl rfl,oe rfl rfl,rfl⟩⟩
  refine eP (key:=4) 4 rfl rfl aB rfl ⟨rfl,rfl,rfl,trivial⟩ ?_;refine aN 1 rfl (cJ ha) bV ⟨aD rfl,rfl⟩ (kF (k)) ?_;refine aN 3 rfl (cJ hb) bV ⟨aD rfl,rfl⟩ (kF (k')) ?_
  refine cF 6 (by kernel_rfl) rfl rfl aB rfl rfl rfl rfl ⟨rfl,rfl,rfl,trivial⟩ ?_
  refine dst 7 ?_;refine bJ ?_;exact⟨(),trivial,bS h0 [2,4,3] _ _ (by decide) ⟨rfl,rfl,rfl,trivial⟩ ⟨oe rfl rfl,oe rfl rfl,oe rfl rfl,rfl⟩⟩
 refine sq ?_;refine rd [0,1,2] (fun i=>[15].contains i) mixed ?_
 refine dv 0 ?_;refine dv 1 ?_;refine bD 2 ?_;refine dv 3 ?_;refine dv 4 ?_;refine bD 5 ?_;refine dv 6 ?_;refine dv 7 ?_;refine dv 8 ?_;refine bD 9 ?_;refine dv 10 ?_;refine dv 11 ?_
 refine bD 12 ?_
 have hA:aE true Tryz.prog 119 [] [.one (.t (sU false (dg 4294967296 k.natAbs))),.one (.t (sU false (dg 4294967296 k'.natAbs)))] (aI (.one (.t (sU true (dg 4294967296 (k.natAbs*k'.natAbs)))))):=by have h9:=Rp (bC (by omega) k.natAbs) (bC (by omega) k'.natAbs) (by omega) (by omega);rwa[bH,bH]at h9
 refine mU 3 13 rfl hA Qz ⟨a1 rfl,a1 rfl,rfl⟩ ?_
 refine uR 14 4 [3] rfl (eX (b:=(aW k != aW k')) (m:=(k.natAbs*k'.natAbs)) (K:=k*k') (Uk k k')) iE ⟨cR rfl,rfl⟩ ⟨rfl,rfl,rfl⟩ ⟨rfl,rfl,rfl,trivial⟩ ?_
 refine dst 15 ?_;refine bJ ?_;refine rt ?_
 exact en (.inl rfl) rfl (bI (.agg (.cons (.id rfl) (.cons (.sl (trs:=aJ (dg 4294967296 ((k*k')).natAbs)) rfl rfl (bE _) (aQ _)) .nil)))) (by decide) (fun _=>eW ((k*k'))) rfl
theorem Rr {a b:Zi}{k k':Int}(ha:Zg a k) (hb:Zg b k'):aE true Tryz.prog 157 [] [gF a,gF b] (aI (kO (((Int.gcd k k'):Nat):Int))):=by
 refine bQ Tryz.func157 rfl Tryz.ntmps157 rfl aB rfl fun N w c0 h0=>?_
 have hkl:=ha.len
 have hkl':=hb.len
 refine sq ?_;refine rl ?_;refine bx 0 ?_;refine bx 1 ?_;refine al 2 ?_;refine nl ?_;refine sq ?_;refine rd [0,1,2] (fun i=>[11].contains i) mixed ?_
 refine bD 0 ?_;refine bD 4 ?_;refine aN 1 rfl (cJ ha) bV ⟨aD rfl,rfl⟩ (kF (k)) ?_;refine df 2 ?_;refine df 3 ?_;refine aN 5 rfl (cJ hb) bV ⟨aD rfl,rfl⟩ (kF (k')) ?_
 refine df 6 ?_;refine df 7 ?_;refine Nx (key:=3) 8 (by kernel_rfl) rfl rfl aB rfl ⟨rfl,rfl,rfl,trivial⟩ ?_
 refine Xl (i:=13) (k:=3) (t:=23) (t':=23) (z:=1) (n:=2) (l:=[sU false (dg 4294967296 k.natAbs),sU false (dg 4294967296 k'.natAbs)]) rfl rfl rfl rfl (.one .sl) (by rfl) (by rfl) ?_
 have hA:aE true Tryz.prog 173 [] [.one (.t (.s false 23 1 2 [sU false (dg 4294967296 k.natAbs),sU false (dg 4294967296 k'.natAbs)]))] (aI (.one (.t (sU true (dg 4294967296 (Int.gcd k k')))))):=by
  have h9:=EP (t:=23) (bC (by omega) k.natAbs) (bC (by omega) k'.natAbs) (by omega) (by omega)
  rwa[show mE [dg 4294967296 k.natAbs,dg 4294967296 k'.natAbs]=(Int.gcd k k') by simp only[mE,List.foldl_cons,List.foldl_nil,bH,Nat.gcd_zero_left];rfl]at h9
 refine mU 4 9 rfl hA DX ⟨a1 rfl,rfl⟩ ?_
 refine uR 10 5 [4] rfl (eX (b:=false) (m:=(Int.gcd k k')) (K:=(((Int.gcd k k'):Nat):Int)) (by simp[cP])) iE ⟨cR rfl,rfl⟩ ⟨rfl,rfl,rfl⟩ ⟨rfl,rfl,rfl,trivial⟩ ?_
 refine dst 11 ?_;refine bJ ?_;refine rt ?_
 exact en (.inl rfl) rfl (bI (.agg (.cons (.id rfl) (.cons (.sl (trs:=aJ (dg 4294967296 ((((Int.gcd k k'):Nat):Int)).natAbs)) rfl rfl (bE _) (aQ _)) .nil)))) (by decide) (fun _=>eW ((((Int.gcd k k'):Nat):Int))) rfl
theorem jE (xs:List Nat):((aJ xs).map AV.t).take (aJ xs).length=(aJ xs).map .t:=List.take_of_length_le (by simp)
theorem mH {a b:Zi}{k k':Int}(ha:Zg a k) (hb:Zg b k') (hz0:k'≠0):aE true Tryz.prog 158 [] [gF a,gF b] (aI (.tup [kO (k.fdiv k'),kO (k.fmod k'),.one (tv (.int .i64 0))])):=by
 refine bQ Tryz.func158 rfl Tryz.ntmps158 rfl aB rfl fun N w c0 h0=>?_
 have hkl:=ha.len
 have hkl':=hb.len
 have hq:(dg 4294967296 (k.natAbs/k'.natAbs)).length≤300000000000:=Nat.le_trans (dK (Nat.div_le_self _ _)) hkl
 have hr0:=Nat.mod_lt k.natAbs (show 0<k'.natAbs by omega)
 have hrl:(dg 4294967296 (k.natAbs%k'.natAbs)).length≤300000000000:=Nat.le_trans (dK (Nat.le_of_lt hr0)) hkl'
 refine sq ?_;refine rl ?_;refine bx 0 ?_;refine bx 1 ?_;refine al 2 ?_;refine al 3 ?_;refine o1 ?_;refine nl ?_
 refine md (γ:=Unit) (fun _=>dD [(4,.one (.pt 0 0)),(5,.one (.pt 1 0)),(6,.one (tv (.int .i64 ((0:Nat):Int)))),(7,.one (.pt 2 0)),(8,.one (.pt 3 0))]) (fun _=>([⟨25,0,[tv (.bool false),tv (.slice none 0 0)]⟩,⟨25,0,[tv (.bool false),tv (.slice none 0 0)]⟩,⟨155,0,[tv (.bool (aW k)),.t (sU false (dg 4294967296 k.natAbs))]⟩,⟨155,0,[tv (.bool (aW k')),.t (sU false (dg 4294967296 k'.natAbs))]⟩]:List Ob).map some) (fun _=>True) ?_ fun _ _=>?_
 ·refine rd [0,1,2,3] (fun i=>[7].contains i) mixed ?_
  refine bD 0 ?_;refine bD 2 ?_;refine WO.three (i:=1) (j:=4) (m:=5) (by kernel_rfl) ?_ ?_ ?_
  ·refine iA 1 rfl (cJ ha) bV ⟨aD rfl,rfl⟩ (kF (k)) ?_;refine WO.three (i:=3) (j:=4) (m:=5) (by kernel_rfl) ?_ ?_ ?_
   ·refine iA 3 rfl (cJ hb) bV ⟨aD rfl,rfl⟩ (kF (k')) ?_;refine WO.two (i:=4) (j:=5) (by kernel_rfl) ?_ ?_
    ·refine eP (key:=4) 4 rfl rfl aB rfl ⟨rfl,rfl,rfl,rfl,trivial⟩ ?_;refine kV (key:=5) 5 (by kernel_rfl) rfl rfl aB rfl ⟨rfl,rfl,rfl,rfl,trivial⟩ ?_
     refine cF 6 (by kernel_rfl) rfl rfl aB rfl rfl rfl rfl ⟨rfl,rfl,rfl,rfl,trivial⟩ ?_
     refine dst 7 ?_;refine bJ ?_;exact⟨(),trivial,bS h0 [2,3,4,5] _ _ (by decide) ⟨rfl,rfl,rfl,rfl,rfl,trivial⟩ ⟨oe rfl rfl,oe rfl rfl,oe rfl rfl,oe rfl rfl,rfl⟩⟩
    refine eP (key:=4) 5 rfl rfl aB rfl ⟨rfl,rfl,rfl,rfl,trivial⟩ ?_;refine kV (key:=5) 4 (by kernel_rfl) rfl rfl aB rfl ⟨rfl,rfl,rfl,rfl,trivial⟩ ?_
    refine cF 6 (by kernel_rfl) rfl rfl aB rfl rfl rfl rfl ⟨rfl,rfl,rfl,rfl,trivial⟩ ?_
    refine dst 7 ?_;refine bJ ?_;exact⟨(),trivial,bS h0 [2,3,5,4] _ _ (by decide) ⟨rfl,rfl,rfl,rfl,rfl,trivial⟩ ⟨oe rfl rfl,oe rfl rfl,oe rfl rfl,oe rfl rfl,rfl⟩⟩
   ·refine eP (key:=4) 4 rfl rfl aB rfl ⟨rfl,rfl,rfl,rfl,trivial⟩ ?_;refine WO.two (i:=3) (j:=5) (by kernel_rfl) ?_ ?_
    ·refine iA 3 rfl (cJ hb) bV ⟨aD rfl,rfl⟩ (kF (k')) ?_;refine kV (key:=5) 5 (by kernel_rfl) rfl rfl aB rfl ⟨rfl,rfl,rfl,rfl,trivial⟩ ?_
     refine cF 6 (by kernel_rfl) rfl rfl aB rfl rfl rfl rfl ⟨rfl,rfl,rfl,rfl,trivial⟩ ?_
     refine dst 7 ?_;refine bJ ?_;exact⟨(),trivial,bS h0 [2,3,4,5] _ _ (by decide) ⟨rfl,rfl,rfl,rfl,rfl,trivial⟩ ⟨oe rfl rfl,oe rfl rfl,oe rfl rfl,oe rfl rfl,rfl⟩⟩
    refine eP (key:=5) 5 rfl rfl aB rfl ⟨rfl,rfl,rfl,rfl,trivial⟩ ?_;refine aN 3 rfl (cJ hb) bV ⟨aD rfl,rfl⟩ (kF (k')) ?_
    refine cF 6 (by kernel_rfl) rfl rfl aB rfl rfl rfl rfl ⟨rfl,rfl,rfl,rfl,trivial⟩ ?_
    refine dst 7 ?_;refine bJ ?_;exact⟨(),trivial,bS h0 [2,3,4,5] _ _ (by decide) ⟨rfl,rfl,rfl,rfl,rfl,trivial⟩ ⟨oe rfl rfl,oe rfl rfl,oe rfl rfl,oe rfl rfl,rfl⟩⟩
   refine eP (key:=4) 5 rfl rfl aB rfl ⟨rfl,rfl,rfl,rfl,trivial⟩ ?_;refine WO.two (i:=3) (j:=4) (by kernel_rfl) ?_ ?_
   ·refine iA 3 rfl (cJ hb) bV ⟨aD rfl,rfl⟩ (kF (k')) ?_;refine kV (key:=5) 4 (by kernel_rfl) rfl rfl aB rfl ⟨rfl,rfl,rfl,rfl,trivial⟩ ?_
    refine cF 6 (by kernel_rfl) rfl rfl aB rfl rfl rfl rfl ⟨rfl,rfl,rfl,rfl,trivial⟩ ?_
    refine dst 7 ?_;refine bJ ?_;exact⟨(),trivial,bS h0 [2,3,5,4] _ _ (by decide) ⟨rfl,rfl,rfl,rfl,rfl,trivial⟩ ⟨oe rfl rfl,oe rfl rfl,oe rfl rfl,oe rfl rfl,rfl⟩⟩
   refine eP (key:=5) 4 rfl rfl aB rfl ⟨rfl,rfl,rfl,rfl,trivial⟩ ?_;refine aN 3 rfl (cJ hb) bV ⟨aD rfl,rfl⟩ (kF (k')) ?_
   refine cF 6 (by kernel_rfl) rfl rfl aB rfl rfl rfl rfl ⟨rfl,rfl,rfl,rfl,trivial⟩ ?_
   refine dst 7 ?_;refine bJ ?_;exact⟨(),trivial,bS h0 [2,3,5,4] _ _ (by decide) ⟨rfl,rfl,rfl,rfl,rfl,trivial⟩ ⟨oe rfl rfl,oe rfl rfl,oe rfl rfl,oe rfl rfl,rfl⟩⟩
  ·refine eP (key:=4) 4 rfl rfl aB rfl ⟨rfl,rfl,rfl,rfl,trivial⟩ ?_;refine WO.two (i:=1) (j:=5) (by kernel_rfl) ?_ ?_
   ·refine iA 1 rfl (cJ ha) bV ⟨aD rfl,rfl⟩ (kF (k)) ?_;refine WO.two (i:=3) (j:=5) (by kernel_rfl) ?_ ?_
    ·refine iA 3 rfl (cJ hb) bV ⟨aD rfl,rfl⟩ (kF (k')) ?_;refine kV (key:=5) 5 (by kernel_rfl) rfl rfl aB rfl ⟨rfl,rfl,rfl,rfl,trivial⟩ ?_
     refine cF 6 (by kernel_rfl) rfl rfl aB rfl rfl rfl rfl ⟨rfl,rfl,rfl,rfl,trivial⟩ ?_
     refine dst 7 ?_;refine bJ ?_;exact⟨(),trivial,bS h0 [2,3,4,5] _ _ (by decide) ⟨rfl,rfl,rfl,rfl,rfl,trivial⟩ ⟨oe rfl rfl,oe rfl rfl,oe rfl rfl,oe rfl rfl,rfl⟩⟩
    refine eP (key:=5) 5 rfl rfl aB rfl ⟨rfl,rfl,rfl,rfl,trivial⟩ ?_;refine aN 3 rfl (cJ hb) bV ⟨aD rfl,rfl⟩ (kF (k')) ?_
    refine cF 6 (by kernel_rfl) rfl rfl aB rfl rfl rfl rfl ⟨rfl,rfl,rfl,rfl,trivial⟩ ?_
    refine dst 7 ?_;refine bJ ?_;exact⟨(),trivial,bS h0 [2,3,4,5] _ _ (by decide) ⟨rfl,rfl,rfl,rfl,rfl,trivial⟩ ⟨oe rfl rfl,oe rfl rfl,oe rfl rfl,oe rfl rfl,rfl⟩⟩
   refine eP (key:=5) 5 rfl rfl aB rfl ⟨rfl,rfl,rfl,rfl,trivial⟩ ?_;refine aN 1 rfl (cJ ha) bV ⟨aD rfl,rfl⟩ (kF (k)) ?_
   refine aN 3 rfl (cJ hb) bV ⟨aD rfl,rfl⟩ (kF (k')) ?_;refine cF 6 (by kernel_rfl) rfl rfl aB rfl rfl rfl rfl ⟨rfl,rfl,rfl,rfl,trivial⟩ ?_
   refine dst 7 ?_;refine bJ ?_;exact⟨(),trivial,bS h0 [2,3,4,5] _ _ (by decide) ⟨rfl,rfl,rfl,rfl,rfl,trivial⟩ ⟨oe rfl rfl,oe rfl rfl,oe rfl rfl,oe rfl rfl,rfl⟩⟩
  refine eP (key:=4) 5 rfl rfl aB rfl ⟨rfl,rfl,rfl,rfl,trivial⟩ ?_;refine WO.two (i:=1) (j:=4) (by kernel_rfl) ?_ ?_
  ·refine iA 1 rfl (cJ ha) bV ⟨aD rfl,rfl⟩ (kF (k)) ?_;refine WO.two (i:=3) (j:=4) (by kernel_rfl) ?_ ?_
   ·refine iA 3 rfl (cJ hb) bV ⟨aD rfl,rfl⟩ (kF (k')) ?_;refine kV (key:=5) 4 (by kernel_rfl) rfl rfl aB rfl ⟨rfl,rfl,rfl,rfl,trivial⟩ ?_
    refine cF 6 (by kernel_rfl) rfl rfl aB rfl rfl rfl rfl ⟨rfl,rfl,rfl,rfl,trivial⟩ ?_
    refine dst 7 ?_;refine bJ ?_;exact⟨(),trivial,bS h0 [2,3,5,4] _ _ (by decide) ⟨rfl,rfl,rfl,rfl,rfl,trivial⟩ ⟨oe rfl rfl,oe rfl rfl,oe rfl rfl,oe rfl rfl,rfl⟩⟩
   refine eP (key:=5) 4 rfl rfl aB rfl ⟨rfl,rfl,rfl,rfl,trivial⟩ ?_;refine aN 3 rfl (cJ hb) bV ⟨aD rfl,rfl⟩ (kF (k')) ?_
   refine cF 6 (by kernel_rfl) rfl rfl aB rfl rfl rfl rfl ⟨rfl,rfl,rfl,rfl,trivial⟩ ?_
   refine dst 7 ?_;refine bJ ?_;exact⟨(),trivial,bS h0 [2,3,5,4] _ _ (by decide) ⟨rfl,rfl,rfl,rfl,rfl,trivial⟩ ⟨oe rfl rfl,oe rfl rfl,oe rfl rfl,oe rfl rfl,rfl⟩⟩
  refine eP (key:=5) 4 rfl rfl aB rfl ⟨rfl,rfl,rfl,rfl,trivial⟩ ?_;refine aN 1 rfl (cJ ha) bV ⟨aD rfl,rfl⟩ (kF (k)) ?_
  refine aN 3 rfl (cJ hb) bV ⟨aD rfl,rfl⟩ (kF (k')) ?_;refine cF 6 (by kernel_rfl) rfl rfl aB rfl rfl rfl rfl ⟨rfl,rfl,rfl,rfl,trivial⟩ ?_
  refine dst 7 ?_;refine bJ ?_;exact⟨(),trivial,bS h0 [2,3,5,4] _ _ (by decide) ⟨rfl,rfl,rfl,rfl,rfl,trivial⟩ ⟨oe rfl rfl,oe rfl rfl,oe rfl rfl,oe rfl rfl,rfl⟩⟩
 refine sq ?_;refine rl ?_;refine o1 ?_;refine o1 ?_;refine ld ?_;refine o1 ?_;refine o1 ?_;refine ld ?_
 have hD:aE true Tryz.prog 174 [] [.one (.t (sU false (dg 4294967296 k.natAbs))),.one (.t (sU false (dg 4294967296 k'.natAbs)))] (aI (.tup [.one (.t (sU true (dg 4294967296 (k.natAbs/k'.natAbs)))),.one (.t (sU true (dg 4294967296 (k.natAbs%k'.natAbs)))),.one (tv (.int .i64 0))])):=by
  have h9:=Ps (bC (by omega) k.natAbs) (bC (by omega) k'.natAbs) (by omega) (by omega) (by rw[bH];omega)
  rwa[bH,bH]at h9
 refine gW 4 hD DY ⟨a1 rfl,a1 rfl,rfl⟩ ?_;(iterate 7 refine o1 ?_);refine nl ?_;refine sq ?_;refine sq ?_;refine rl ?_;refine o1 ?_;refine o1 ?_;refine nl ?_
 refine cY rfl (fun h1=>?_) (fun h1=>?_)
 ·exact absurd rfl h1
 refine sk ?_;refine sq ?_;refine sq ?_;refine rl ?_;refine o1 ?_;refine o1 ?_;refine ld ?_;refine o1 ?_;refine o1 ?_;refine ld ?_;refine o1 ?_;refine o1 ?_
 refine WL.splitb (t:=37) rfl (fun h2=>?_) (fun h2=>?_)
 ·(iterate 4 refine o1 ?_);refine nl ?_;refine cY rfl (fun h3=>?_) (fun h3=>?_)
  ·refine sq ?_;refine rl ?_;refine o1 ?_;refine bs 6 ?_
   have hA:aE true Tryz.prog 165 [] [.one (.t (sU false (dg 4294967296 (k.natAbs/k'.natAbs)))),.one (.t (sU false [1]))] (aI (.one (.t (sU true (dg 4294967296 ((k.natAbs/k'.natAbs)+1)))))):=by
    have h9:=Iy (bC (by omega) (k.natAbs/k'.natAbs)) (Lim.cons (show 1<4294967296 by omega) Lim.nil) (by omega) (by simp)
    rwa[cU (by omega),show vl 4294967296 [1]=1 from rfl]at h9
   refine gW 7 hA rZ ⟨lZ rfl (.sl rfl rfl (jE _) (aQ _)),lZ rfl (.sl (trs:=aJ [1]) rfl rfl rfl rfl),rfl⟩ ?_;refine o1 ?_;refine nl ?_;refine rl ?_;refine o1 ?_
   refine o1 ?_;refine ld ?_;refine o1 ?_
   have hS:aE true Tryz.prog 175 [] [.one (.t (sU false (dg 4294967296 k'.natAbs))),.one (.t (sU false (dg 4294967296 (k.natAbs%k'.natAbs))))] (aI (.tup [.one (.t (sU true (dg 4294967296 (k'.natAbs-(k.natAbs%k'.natAbs))))),.one (tv (.int .i64 0))])):=by
    have h9:=Iz (bC (by omega) k'.natAbs) (bC (by omega) (k.natAbs%k'.natAbs)) (by omega) (by rw[bH,cU (by omega)];omega)
    rwa[bH,cU (by omega)]at h9
   refine gW 8 hS Ic ⟨a1 rfl,lZ rfl (.sl rfl rfl (jE _) (aQ _)),rfl⟩ ?_;(iterate 4 refine o1 ?_);refine nl ?_;refine sq ?_
   have hd:k.fdiv k'=cP (aW k != aW k') ((k.natAbs/k'.natAbs)+1)∧k.fmod k'=cP (aW k') (k'.natAbs-(k.natAbs%k'.natAbs)):=by
    have h9:aW k≠aW k':=by simpa using h2
    have h7:k.natAbs%k'.natAbs≠0:=by have h5:=iN (m:=(k.natAbs%k'.natAbs)) rfl;rw[decide_eq_true (by omega)]at h5;have h6:=of_decide_eq_true h5.symm;omega
    have h8:=Un (a:=k) (b:=k') hz0 h9 h7
    rw[h2];exact h8
   refine rd [1,2,3,6] (fun i=>[15,16].contains i) mixed ?_
   refine dv 0 ?_;refine dv 1 ?_;refine bD 2 ?_;refine dv 3 ?_;refine dv 4 ?_;refine bD 5 ?_;refine dv 6 ?_;refine dv 7 ?_;refine dv 9 ?_;refine dv 10 ?_;refine bD 11 ?_
   refine dv 12 ?_
   refine uR 8 9 [7] rfl (eX (b:=(aW k != aW k')) (m:=((k.natAbs/k'.natAbs)+1)) (K:=(k.fdiv k')) hd.1.symm) iE ⟨cR rfl,rfl⟩ ⟨rfl,rfl,rfl⟩ ⟨rfl,rfl,rfl,rfl,trivial⟩ ?_
   refine uR 13 10 [8] rfl (eX (b:=(aW k')) (m:=(k'.natAbs-(k.natAbs%k'.natAbs))) (K:=(k.fmod k')) hd.2.symm) iE ⟨cR rfl,rfl⟩ ⟨rfl,rfl,rfl⟩ ⟨rfl,rfl,rfl,rfl,trivial⟩ ?_
   refine cF 14 (by kernel_rfl) rfl rfl aB rfl rfl rfl rfl ⟨rfl,rfl,rfl,rfl,trivial⟩ ?_
   refine dst 15 ?_;refine gA 16 (by kernel_rfl) rfl rfl aB rfl (by trivial) ?_ (fun h=>by first | rfl | cases h)
   refine bJ ?_;refine rt ?_
   exact en (.inl rfl) rfl (tH (.cons (.agg (.cons (.id rfl) (.cons (.sl (trs:=aJ (dg 4294967296 ((k.fdiv k')).natAbs)) rfl rfl (bE _) (aQ _)) .nil))) (.cons (.agg (.cons (.id rfl) (.cons (.sl (trs:=aJ (dg 4294967296 ((k.fmod k')).natAbs)) rfl rfl (bE _) (aQ _)) .nil))) (.cons (aZ (.int .i64 0)) .nil)))) (by decide) (fun _=>⟨eW (k.fdiv k'),eW (k.fmod k'),trivial,trivial⟩) rfl
  refine sk ?_;refine sq ?_;have hd:k.fdiv k'=cP (aW k != aW k') (k.natAbs/k'.natAbs)∧k.fmod k'=cP (aW k') (k.natAbs%k'.natAbs):=by
   have h9:aW k≠aW k':=by simpa using h2
   have h7:k.natAbs%k'.natAbs=0:=by have h5:=iN (m:=(k.natAbs%k'.natAbs)) rfl;rw[decide_eq_false (by omega)]at h5;have h6:=of_decide_eq_false h5.symm;omega
   have h8:=Um (a:=k) (b:=k') hz0 h9 h7
   rw[h2];exact h8
  refine rd [1,2,3] (fun i=>[15,16].contains i) mixed ?_
  refine dv 0 ?_;refine dv 1 ?_;refine bD 2 ?_;refine dv 3 ?_;refine dv 4 ?_;refine bD 5 ?_;refine dv 6 ?_;refine dv 7 ?_;refine dv 9 ?_;refine dv 10 ?_;refine bD 11 ?_
  refine dv 12 ?_
  refine uR 8 6 [4] rfl (eX (b:=(aW k != aW k')) (m:=(k.natAbs/k'.natAbs)) (K:=(k.fdiv k')) hd.1.symm) iE ⟨cR rfl,rfl⟩ ⟨rfl,rfl,rfl⟩ ⟨rfl,rfl,rfl,trivial⟩ ?_
  refine uR 13 7 [5] rfl (eX (b:=(aW k')) (m:=(k.natAbs%k'.natAbs)) (K:=(k.fmod k')) hd.2.symm) iE ⟨cR rfl,rfl⟩ ⟨rfl,rfl,rfl⟩ ⟨rfl,rfl,rfl,trivial⟩ ?_
  refine cF 14 (by kernel_rfl) rfl rfl aB rfl rfl rfl rfl ⟨rfl,rfl,rfl,trivial⟩ ?_
  refine dst 15 ?_;refine gA 16 (by kernel_rfl) rfl rfl aB rfl (by trivial) ?_ (fun h=>by first | rfl | cases h)
  refine bJ ?_;refine rt ?_
  exact en (.inl rfl) rfl (tH (.cons (.agg (.cons (.id rfl) (.cons (.sl (trs:=aJ (dg 4294967296 ((k.fdiv k')).natAbs)) rfl rfl (bE _) (aQ _)) .nil))) (.cons (.agg (.cons (.id rfl) (.cons (.sl (trs:=aJ (dg 4294967296 ((k.fmod k')).natAbs)) rfl rfl (bE _) (aQ _)) .nil))) (.cons (aZ (.int .i64 0)) .nil)))) (by decide) (fun _=>⟨eW (k.fdiv k'),eW (k.fmod k'),trivial,trivial⟩) rfl
 (iterate 3 refine dE ?_);refine o1 ?_;refine nl ?_;refine kH rfl ?_;refine sk ?_;refine sq ?_
 have hd:k.fdiv k'=cP (aW k != aW k') (k.natAbs/k'.natAbs)∧k.fmod k'=cP (aW k') (k.natAbs%k'.natAbs):=by
  have h9:aW k=aW k':=by simpa using h2
  have h8:=Ul (a:=k) (b:=k') hz0 h9
  rw[h2];exact h8
 refine rd [1,2,3] (fun i=>[15,16].contains i) mixed ?_
 refine dv 0 ?_;refine dv 1 ?_;refine bD 2 ?_;refine dv 3 ?_;refine dv 4 ?_;refine bD 5 ?_;refine dv 6 ?_;refine dv 7 ?_;refine dv 9 ?_;refine dv 10 ?_;refine bD 11 ?_
 refine dv 12 ?_
 refine uR 8 6 [4] rfl (eX (b:=(aW k != aW k')) (m:=(k.natAbs/k'.natAbs)) (K:=(k.fdiv k')) hd.1.symm) iE ⟨cR rfl,rfl⟩ ⟨rfl,rfl,rfl⟩ ⟨rfl,rfl,rfl,trivial⟩ ?_
 refine uR 13 7 [5] rfl (eX (b:=(aW k')) (m:=(k.natAbs%k'.natAbs)) (K:=(k.fmod k')) hd.2.symm) iE ⟨cR rfl,rfl⟩ ⟨rfl,rfl,rfl⟩ ⟨rfl,rfl,rfl,trivial⟩ ?_
 refine cF 14 (by kernel_rfl) rfl rfl aB rfl rfl rfl rfl ⟨rfl,rfl,rfl,trivial⟩ ?_
 refine dst 15 ?_;refine gA 16 (by kernel_rfl) rfl rfl aB rfl (by trivial) ?_ (fun h=>by first | rfl | cases h)
 refine bJ ?_;refine rt ?_
 exact en (.inl rfl) rfl (tH (.cons (.agg (.cons (.id rfl) (.cons (.sl (trs:=aJ (dg 4294967296 ((k.fdiv k')).natAbs)) rfl rfl (bE _) (aQ _)) .nil))) (.cons (.agg (.cons (.id rfl) (.cons (.sl (trs:=aJ (dg 4294967296 ((k.fmod k')).natAbs)) rfl rfl (bE _) (aQ _)) .nil))) (.cons (aZ (.int .i64 0)) .nil)))) (by decide) (fun _=>⟨eW (k.fdiv k'),eW (k.fmod k'),trivial,trivial⟩) rfl
theorem xD {α:Type}{f:α→List Tr}{z:Nat}(hf:∀x,(f x).length=z):∀{xs:List α}{k:Nat}{x:α},xs[k]? =some x→((xs.flatMap f).drop (k*z)).take z=f x
 | [],_,_,h=>by simp at h
 | y::xs,0,x,h=>by
  simp at h
  subst h
  rw[Nat.zero_mul,List.drop_zero,List.flatMap_cons,List.take_append_of_le_length (by rw[hf];exact Nat.le_refl _),List.take_of_length_le (by rw[hf];exact Nat.le_refl _)]
 | y::xs,k+1,x,h=>by
  rw[List.getElem?_cons_succ]at h
  have e:(f y++xs.flatMap f).drop z=xs.flatMap f:=by rw[←hf y];simp
  rw[List.flatMap_cons,Nat.succ_mul,Nat.add_comm,←List.drop_drop,e]
  exact xD hf h
theorem mI {α:Type}{f:α→List Tr}{z:Nat}(hf:∀x,(f x).length=z):∀(xs:List α),(xs.flatMap f).length=xs.length*z
 | []=>by simp
 | y::xs=>by rw[List.flatMap_cons,List.length_append,hf,mI hf xs,List.length_cons,Nat.succ_mul,Nat.add_comm]
theorem Pt {α:Type}{f:α→List Tr}{z o m:Nat}(hf:∀x,(f x).length=z){xs:List α}{k:Nat}{x:α}(h:xs[k]? =some x) (hm:o+m≤z):((xs.flatMap f).drop (k*z+o)).take m=((f x).drop o).take m:=by
 have e:=xD hf h
 rw[←List.drop_drop,←e,List.drop_take,List.take_take,Nat.min_eq_left (by omega)]
section
variable {α:Type}{f:α→List Tr}{z:Nat}{xs:List α}{k o:Nat}{x x' y:α}{us:List Tr}
theorem Mk (hf:∀x,(f x).length=z) (h:xs[k]? =some x) (hm:o+us.length≤z) (hu:((f x).drop o).take us.length=us):((xs.flatMap f).drop (k*z+o)).take us.length=us:=by
 rw[Pt hf h hm]
 exact hu
end
def JP (o:Bool) (a:Zi):List Tr:=[.v (.bool a.s),sU o a.x]
def pY (l:List Nat):Bool:=l.all fun c=>decide (48≤c∧c≤57)
theorem Uz {l:List Nat}(h:pY l=true):∀c∈l,48≤c∧c≤57:=by simpa[pY]using h
theorem Ml {l:List Nat}(h:∀c∈l,48≤c∧c≤57):pY l=true:=by simpa[pY]using h
theorem Ck:∀c<256,([48,49,50,51,52,53,54,55,56,57]:List UInt8).contains (UInt8.ofNat c)=decide (48≤c∧c≤57):=by decide+kernel
theorem Gi {l:List Nat}(h:Lim 256 l):((⟨(Lib.trimS (aA l).data.toList [48,49,50,51,52,53,54,55,56,57]).toArray⟩:ByteArray).toList==(⟨#[]⟩:ByteArray).toList)=pY l:=by
 rw[ByteArray.toList_eq,ByteArray.toList_eq,Bool.eq_iff_iff,beq_iff_eq]
 show Lib.trimS _ _=[]↔_
 rw[Mg,fL]
 unfold pY
 rw[List.all_eq_true]
 refine⟨fun g c hc=>?_,fun g x hx=>?_⟩
 ·rw[←Ck c (h c hc)]
  exact g _ (List.mem_map.2 ⟨c,hc,rfl⟩)
 obtain⟨c,hc,rfl⟩:=List.mem_map.1 hx
 rw[Ck c (h c hc)]
 exact g c hc
def hG (l:List Nat):Bool:=decide (l=[])||(!decide (l=[48])&&decide (nth l 0=48))|| !pY l
def pZ (l:List Nat):Int:=if hG l then 60 else if 4096<l.length then 3 else 0
def Gj (l:List Nat):Nat:=if pZ l=0 then bK l else 0
theorem ES {l:List Nat}(h:decide (l=[])=true):hG l=true:=by simp[hG,h]
theorem ET {l:List Nat}(h:decide (l=[48])=false) (h2:nth l 0=48):hG l=true:=by simp[hG,h,h2]
theorem Jb {l:List Nat}(h:pY l=false):hG l=true:=by simp[hG,h]
theorem vH {l:List Nat}(h0:decide (l=[])=false) (h:decide (l=[48])=true∨¬nth l 0=48) (h2:pY l=true):hG l=false:=by
 rcases h with h | h <;> simp[hG,h0,h,h2]
theorem zJ {l:List Nat}(h:hG l=true):pZ l=60:=by simp[pZ,h]
theorem AO {l:List Nat}(h:hG l=false) (h2:4096<l.length):pZ l=3:=by simp[pZ,h,h2]
theorem Pu {l:List Nat}(h:hG l=false) (h2:¬4096<l.length):pZ l=0:=by simp[pZ,h,h2]
theorem Jc {l:List Nat}(h:pZ l=0):Gj l=bK l:=if_pos h
theorem sE {l:List Nat}(h:¬pZ l=0):Gj l=0:=if_neg h
theorem Mm {l:List Nat}(h:hG l=false):∀c∈l,48≤c∧c≤57:=by
 refine Uz ?_
 cases hq:pY l with
 | true=>rfl
 | false=>rw[Jb hq]at h;cases h
theorem Cl (m:List Nat):∀n:Nat,m.foldl (fun n c=>n*10+(c-48)) n=n*10^m.length+bK m:=by
 induction m with
 | nil=>intro n;simp[bK]
 | cons c m ih=>
  intro n
  have e:bK (c::m)=(0*10+(c-48))*10^m.length+bK m:=ih _
  rw[List.foldl_cons,ih,e,List.length_cons,Nat.pow_succ,Nat.zero_mul,Nat.zero_add,Nat.add_mul,Nat.mul_assoc,Nat.mul_comm 10,Nat.add_assoc]
theorem sF (l m:List Nat):bK (l++m)=bK l*10^m.length+bK m:=by
 show(l++m).foldl _ 0=_
 rw[List.foldl_append,Cl]
 rfl
theorem mV {l:List Nat}{j f:Nat}(h:j+f≤l.length) (hf:j=0∨f=9):bK (l.take j)*1000000000+bK ((l.drop j).take f)=bK (l.take (j+f)):=by
 rw[List.take_add,sF,List.length_take,List.length_drop,Nat.min_eq_left (by omega)]
 rcases hf with rfl | rfl
 ·simp[bK]
 rfl
theorem Va {l:List Nat}(h:∀c∈l,48≤c∧c≤57){j:Nat}(hj:j≤l.length):bK (l.take j)<4294967296^j:=Nat.lt_of_lt_of_le (zE h hj) (Nat.pow_le_pow_left (by omega) j)
theorem oH {l:List Nat}(h:∀c∈l,48≤c∧c≤57){j:Nat}(hj:j≤l.length):(dg 4294967296 (bK (l.take j))).length≤j:=bM (by omega) (Va h hj)
theorem pM {l:List Nat}(h:∀c∈l,48≤c∧c≤57) (j f:Nat):∀c∈(l.drop j).take f,48≤c∧c≤57:=fun c hc=>h c (List.mem_of_mem_drop (List.mem_of_mem_take hc))
theorem pN {l:List Nat}(h:∀c∈l,48≤c∧c≤57){j f:Nat}(hj:j+f≤l.length) (hf:f≤9):bK ((l.drop j).take f)<1000000000:=
 Nat.lt_of_lt_of_le (zE (l:=l.drop j) (k:=f) (fun c hc=>h c (List.mem_of_mem_drop hc)) (by rw[List.length_drop];omega)) (Nat.le_trans (Nat.pow_le_pow_right (by omega) hf) (by decide))
theorem Vb (ds:List Nat):bK (cZ ds).reverse=vl 10 ds:=by
 induction ds with
 | nil=>rfl
 | cons d ds ih=>
  have e:(cZ (d::ds)).reverse=(cZ ds).reverse++[48+d]:=by simp[cZ]
  rw[e,sF,ih]
  simp[bK,vl]
  omega
theorem AP (v:Nat):bK (tx v)=v:=by
 unfold tx
 split
 ·rename_i h;subst h;rfl
 rw[Vb,cU (by omega)]
theorem uA (v:Nat):∀c∈tx v,48≤c∧c≤57:=by
 unfold tx
 split
 ·intro c hc
  simp at hc
  omega
 intro c hc
 rw[List.mem_reverse]at hc
 obtain⟨d,hd,rfl⟩:=List.mem_map.1 hc
 have:=bC (B:=10) (by omega) v d hd
 omega
theorem Vc {v:Nat}(h:v≠0):nth (tx v) 0≠48:=by
 have e:=Im (l:=dg 10 v) (v:=v) (bC (by omega) v) (cU (by omega) v)
 rw[if_neg h]at e
 have e2:tx v=(cZ (dg 10 v)).reverse:=by unfold tx;rw[if_neg h]
 rw[←e2]at e
 have h2:=oS v
 generalize tx v=L at e h2
 cases L with
 | nil=>exact absurd rfl h2
 | cons x l=>
  intro h3
  have h4:x=48:=h3
  subst h4
  have h5:=(List.dropWhile_sublist (· ==48) (l:=l)).length_le
  rw[List.dropWhile_cons,if_pos (by rfl)]at e
  rw[e,List.length_cons]at h5
  omega
theorem Vd (v:Nat):hG (tx v)=false:=by
 by_cases h:v=0
 ·subst h;rfl
 exact vH (decide_eq_false (oS v)) (.inr (Vc h)) (Ml (uA v))
def aV (l:List Nat):List Nat:=if l.take 1=[45]then l.drop 1 else l
theorem vI {u m:Nat}(h:(dg 4294967296 u).length≤1099511627776) (hm:m<4294967296):aE true Tryz.prog 166 [] [.one (.t (sU false (dg 4294967296 u))),.one (tv (.int .u32 (m:Int)))] (aI (.one (.t (sU true (dg 4294967296 (u*m)))))):=by
 have h1:=vG (bC (by omega) u) h hm
 rwa[cU (by omega)]at h1
theorem vJ {u x:Nat}(h:(dg 4294967296 u).length≤1099511627776) (hx:x<4294967296):aE true Tryz.prog 165 [] [.one (.t (sU false (dg 4294967296 u))),.one (.t (sU false [x]))] (aI (.one (.t (sU true (dg 4294967296 (u+x)))))):=by
 have h1:=Iy (bC (by omega) u) (Lim.cons hx Lim.nil) h (by simp)
 rw[cU (by omega)]at h1
 have e:vl 4294967296 [x]=x:=by simp[vl]
 rwa[e]at h1
def eJ (c:Nat):Bool:=decide (48≤c∧c≤57)
def fK (l:List Nat):Bool:=decide (l.take 1=[45])
def gX (l:List Nat):Bool:=decide (l.take 1=[46])
def wh (m:List Nat):List Nat:=m.takeWhile eJ
def cQ (m:List Nat):List Nat:=m.dropWhile eJ
def kR (l:List Nat):List Nat:=if l.take 1=[46]then l.drop 1 else l
theorem Jd {l:List Nat}(h:gX l=true):kR l=l.drop 1:=if_pos (of_decide_eq_true h)
theorem EU {l:List Nat}(h:gX l=false):kR l=l:=if_neg (of_decide_eq_false h)
def pl (m:List Nat):List Nat:=if gX (cQ m)then(kR (cQ m)).takeWhile eJ else []
def rr (m:List Nat):List Nat:=if gX (cQ m)then(kR (cQ m)).dropWhile eJ else cQ m
def Gk (l:List Nat):Bool:=l.all fun c=>decide (c=48)
def Rs (m:List Nat):Bool:=Gk (wh m++pl m)
def oI (m:List Nat):Bool:= !(gX (cQ m)&&decide (pl m=[]))&&(decide (rr m=[])&&(!decide (wh m=[])&&(decide (wh m=[48])|| !decide (nth (wh m) 0=48))))
def jF (l:List Nat):Bool:=oI (aV l)&& !(fK l&&Rs (aV l))
def dU (l:List Nat) (most:Nat):Int:=if jF l=true∧(pl (aV l)).length≤most then(if 40<(wh (aV l)).length+(pl (aV l)).length then 3 else 0)else 60
def Em (l:List Nat):Rat:=Rat.divInt (cP (fK l) (bK (wh (aV l)++pl (aV l)))) ((10^(pl (aV l)).length:Nat):Int)
def cL (l:List Nat) (most:Nat):Rat:=if dU l most=0 then Em l else 0
theorem uD {c:Nat}(h:eJ c=true):48≤c∧c≤57:=of_decide_eq_true h
theorem Mn (p:Nat→Bool) (m:List Nat):∀c∈m.takeWhile p,p c=true:=fun c hc=>by
 induction m with
 | nil=>simp at hc
 | cons x m ih=>
  rw[List.takeWhile_cons]at hc
  split at hc
  ·rcases List.mem_cons.1 hc with rfl | hc
   ·assumption
   exact ih hc
  cases hc
theorem AQ (m:List Nat):∀c∈wh m,48≤c∧c≤57:=fun c hc=>uD (Mn eJ m c hc)
theorem AS (m:List Nat):∀c∈pl m,48≤c∧c≤57:=fun c hc=>by
 unfold pl at hc
 split at hc
 ·exact uD (Mn eJ _ c hc)
 cases hc
theorem Pv (m:List Nat):∀c∈wh m++pl m,48≤c∧c≤57:=fun c hc=>(List.mem_append.1 hc).elim (AQ m c) (AS m c)
theorem Ve (m:List Nat):wh m++cQ m=m:=List.takeWhile_append_dropWhile
theorem Pw {l:List Nat}(h:gX l=true):l=46::l.drop 1:=by
 have h:=of_decide_eq_true h
 cases l with
 | nil=>simp at h
 | cons x l=>simp at h;simp[h]
theorem Mo {m:List Nat}(h:gX (cQ m)=true):cQ m=46::(pl m++rr m):=by
 have h1:=Pw h
 unfold pl rr
 rw[if_pos h,if_pos h,List.takeWhile_append_dropWhile,Jd h]
 exact h1
theorem Ru {m:List Nat}(h:gX (cQ m)=false):rr m=cQ m:=by unfold rr;rw[h];rfl
theorem Je {m:List Nat}(h:gX (cQ m)=false):pl m=[]:=by unfold pl;rw[h];rfl
def b1 (m:List Nat):Bool:=decide ((wh m).length=0)||(decide (1<(wh m).length)&&decide (nth m 0=48))
def b2 (m:List Nat):Bool:=gX (cQ m)&&decide ((pl m).length=0)
theorem Vf {l:List Nat}(hl:Lim 256 l):Lim 256 (aV l):=by
 unfold aV
 split
 ·exact jR hl 1
 exact hl
theorem xE {l:List Nat}:(aV l).length≤l.length:=by
 unfold aV
 split
 ·rw[List.length_drop];omega
 exact Nat.le_refl _
theorem EV (p:Nat→Bool) (l:List Nat):l.take (l.length-(l.dropWhile p).length)=l.takeWhile p:=by
 have h:l.takeWhile p++l.dropWhile p=l:=List.takeWhile_append_dropWhile
 have h2:=congrArg List.length h
 rw[List.length_append]at h2
 have e:l.length-(l.dropWhile p).length=(l.takeWhile p).length:=by omega
 rw[e]
 have h3:=List.take_left (l₁:=l.takeWhile p) (l₂:=l.dropWhile p)
 rwa[h]at h3
theorem AT {B:Nat}{p:Nat→Bool}{l:List Nat}(h:Lim B l):Lim B (l.takeWhile p):=fun x hx=>h x ((List.takeWhile_sublist p).subset hx)
theorem xF {B:Nat}{l:List Nat}(h:Lim B l):Lim B (kR l):=by
 unfold kR
 split
 ·exact jR h 1
 exact h
theorem Vg {l:List Nat}:(kR l).length≤l.length:=by
 unfold kR
 split
 ·rw[List.length_drop];omega
 exact Nat.le_refl _
theorem vK {m:List Nat}:Lim 256 (wh m):=fun c hc=>by have:=AQ m c hc;omega
theorem AU {m:List Nat}:Lim 256 (pl m):=fun c hc=>by have:=AS m c hc;omega
theorem Vh (m:List Nat):(cQ m).length≤m.length:=(List.dropWhile_sublist _).length_le
theorem Cm (m:List Nat):(wh m).length+(pl m).length≤m.length:=by
 have h1:=congrArg List.length (Ve m)
 rw[List.length_append]at h1
 cases hp:gX (cQ m)with
 | true=>
  have h2:=congrArg List.length (Mo hp)
  rw[List.length_cons,List.length_append]at h2
  omega
 | false=>rw[Je hp,List.length_nil];omega
def jJ (l:List Nat):List Nat:=if l.dropWhile (· ==48)=[]then [48]else l.dropWhile (· ==48)
theorem Cn {l:List Nat}:bK (l.dropWhile (· ==48))=bK l:=by
 induction l with
 | nil=>rfl
 | cons c l ih=>
  rw[List.dropWhile_cons]
  split
  ·rename_i h
   have h:c=48:=by simpa using h
   subst h
   rw[ih]
   show _=List.foldl _ _ (48::l)
   rw[List.foldl_cons]
   rfl
  rfl
theorem Vi {l:List Nat}(h:Lim 256 l):Lim 256 (jJ l):=by
 unfold jJ
 split
 ·exact Lim.cons (by omega) Lim.nil
 exact iY h
theorem Gl {l:List Nat}:(jJ l).length≤l.length+1:=by
 unfold jJ
 split
 ·show 1≤_;omega
 exact Nat.le_trans (List.dropWhile_sublist _).length_le (by omega)
theorem AW {l:List Nat}(h:∀c∈l,48≤c∧c≤57) (hn:l.length≤4000):pZ (jJ l)=0∧Gj (jJ l)=bK l:=by
 have hg:hG (jJ l)=false:=by
  unfold jJ
  split
  ·rfl
  rename_i h0
  refine vH (decide_eq_false h0) (.inr fun h1=>?_) (Ml fun c hc=>h c ((List.dropWhile_sublist _).subset hc))
  have h2:=List.head?_dropWhile_not (· ==48) l
  cases hq:l.dropWhile (· ==48)with
  | nil=>exact h0 hq
  | cons x w=>
   rw[hq]at h1 h2
   have h3:x=48:=h1
   subst h3
   simp at h2
 have e:=Pu hg (by have:=Gl (l:=l);omega)
 refine⟨e,?_⟩
 rw[Jc e]
 unfold jJ
 split
 ·rename_i h0
  rw[←Cn (l:=l),h0];rfl
 exact Cn
theorem Vj (n:Bool) (v:Nat):cX n (dg 4294967296 v)=cP n v:=by
 cases n with
 | false=>exact jS v
 | true=>
  by_cases h:v=0
  ·subst h;rw[gN];rfl
  have h2:=oE (-(v:Int))
  have e1:aW (-(v:Int))=true:=decide_eq_true (by omega)
  rw[e1,Int.natAbs_neg,Int.natAbs_natCast]at h2
  rw[h2];rfl
def Qn (a:Fr4) (p:Rat):Prop:=a.ok∧a.q=p
section
variable {a:Fr4}{p q:Rat}{k k':Int}{L M:Nat}
theorem AX (h:Qn a p):Zn ⟨a.s,a.x⟩ (cX a.s a.x):=⟨h.1.1,by have:=h.1.2.2.1;dsimp only;omega,rfl⟩
theorem Cp (h:Qn a p):Zn ⟨a.t,a.y⟩ (cX a.t a.y):=⟨h.1.2.1,by have:=h.1.2.2.2;dsimp only;omega,rfl⟩
theorem mJ (h:Sz L p) (hL:L≤137438953472:=by omega):Zn (.of p.num) p.num:=.of (Nat.le_trans h.1 hL)
theorem kS (h:Sz L p) (hL:L≤137438953472:=by omega):Zn ⟨false,dg 4294967296 p.den⟩ (p.den:Int):=⟨bC (by omega) _,Nat.le_trans h.2 hL,jS p.den⟩
theorem Qn.sz (h:Qn a p):Sz 68719476736 p:=by
 obtain⟨⟨h1,h2,h3,h4⟩,rfl⟩:=h
 exact AG h1 h2 h3 h4 (by omega)
theorem Qn.of (h:Sz L p) (hL:L≤68719476736:=by omega):Qn (.of p) p:=⟨⟨bC (by omega) _,bC (by omega) _,Nat.le_trans h.1 hL,Nat.le_trans h.2 hL⟩,Fr4.q_of p⟩
theorem Qn.right (h:Qn a p) (hr:cW a.s a.x a.t a.y=true):Fr4.of p=a:=by
 obtain⟨⟨l1,l2,_,_⟩,rfl⟩:=h
 obtain⟨h1,h2,h3,h4⟩:=rB hr
 have e1:=Gd hr
 have e2:=Ge hr
 have e3:=xA l1 h1
 have e4:=oD l1 h1
 have e5:=xA l2 h2
 have e6:=oD l2 h2
 rw[←e1]at e3 e4
 rw[←e2]at e5 e6
 rw[sD]at e5
 rw[Int.natAbs_natCast]at e6
 unfold Fr4.of Fr4.q
 rw[e3,e4,e5,e6]
theorem Qn.wrong (h:Qn a p) (hr:cW a.s a.x a.t a.y=false):p=0:=by
 obtain⟨_,rfl⟩:=h
 exact yE hr
theorem Ag {n:Int}(h1:-9223372036854775808≤n) (h2:n≤9223372036854775807):(dg 4294967296 n.natAbs).length≤2:=bM (by omega) (by omega)
end
def IM:Fr4:=⟨false,[],false,[]⟩
def eY (xs:List Fr4) (k:Nat):Fr4:=xs.getD k IM
theorem pO {xs:List Fr4}{k:Nat}(h:k<xs.length):xs[k]? =some (eY xs k):=by simp[eY,h]
theorem fF {xs:List Fr4}{k:Nat}(h:k<xs.length):eY xs k∈xs:=List.mem_of_getElem? (pO h)
def sQ (o:Bool) (xs:List Fr4):Tr:=.s o 33 4 xs.length (xs.flatMap (Fr4.tr o))
theorem zX (xs:List Fr4){k:Nat}(h:k<xs.length):((xs.flatMap (Fr4.tr false)).drop (k*4)).take ((eY xs k).tr false).length=(eY xs k).tr false:=xD (f:=Fr4.tr false) (fun _=>rfl) (pO h)
section
variable {xs:List Fr4}{k:Nat}
theorem tW (h:k<xs.length):(xs.take (k+1)).map Fr4.q=(xs.take k).map Fr4.q++[(eY xs k).q]:=by rw[List.take_add_one,pO h];simp
end
section
variable {vs:List (Int×Rat)}{k:Nat}
end
def iS (l:List Rat):Rat:=l.foldl (· + ·) 0
theorem Mp (l:List Rat) (q:Rat):iS (l++[q])=iS l+q:=by simp[iS]
def fl (q:Rat):Int:=q.floor
theorem nL (q:Rat):q.num.fdiv (q.den:Int)=fl q:=by
 unfold fl
 rw[Rat.floor_def,Int.fdiv_eq_ediv_of_nonneg _ (by omega)]
theorem Rw (q:Rat):q*(q.den:Rat)=(q.num:Rat):=by
 have h:=Rat.num_divInt_den q
 have h2:Rat.divInt q.num (q.den:Int)=(q.num:Rat)/((q.den:Int):Rat):=Rat.divInt_eq_div _ _
 have h3:((q.den:Int):Rat)=(q.den:Rat):=rfl
 have h4:(q.den:Rat)≠0:=by
  have:=q.den_pos
  intro h
  have:q.den=0:=by exact_mod_cast h
  omega
 rw[h2,h3]at h
 have h6:(q.num:Rat)/(q.den:Rat)*(q.den:Rat)=(q.num:Rat):=Rat.div_mul_cancel h4
 rwa[h]at h6
theorem Dl (a b:Int) (hb:b≠0):Rat.divInt a b*(b:Rat)=(a:Rat):=by
 rw[Rat.divInt_eq_div,Rat.div_def,Rat.mul_assoc,Rat.inv_mul_cancel _ (by simpa using hb),Rat.mul_one]
theorem wD {a b c:Rat}(hc:c≠0) (h:a*c=b*c):a=b:=by
 have h2:=congrArg (· *c⁻¹) h
 simpa only[Rat.mul_assoc,Rat.mul_inv_cancel c hc,Rat.mul_one]using h2
theorem Xn (z:Int):fl (z:Rat)=z:=Rat.floor_intCast z
theorem Tg {q:Rat}(h:q.den=1):((q.num:Int):Rat)=q:=by
 have:=Rw q
 rw[h]at this
 rw[←this]
 simp
theorem Td {p q:Rat}(h:p≤q):fl p≤fl q:=Rat.floor_monotone h
theorem Rx (p q:Rat):Rat.divInt (p.num*(q.den:Int)) ((p.den:Int)*q.num)=p/q:=by
 have e:=Rat.num_divInt_den q
 have e2:=Rat.num_divInt_den p
 conv=>rhs;rw[←e,←e2]
 rw[Rat.div_def,Rat.inv_divInt,Rat.divInt_mul_divInt]
def pd (n:Nat):Nat→List Nat
 | 0=>[]
 | d+1=>pd (n/10) d++[48+n%10]
theorem kG:∀(d n:Nat),(pd n d).length=d
 | 0,_=>rfl
 | d+1,n=>by rw[pd,List.length_append,kG d];rfl
theorem Hc:∀(d n:Nat),∀c∈pd n d,48≤c∧c≤57
 | 0,_=>by intro c hc;cases hc
 | d+1,n=>by
  intro c hc
  rw[pd]at hc
  rcases List.mem_append.1 hc with h | h
  ·exact Hc d _ c h
  rw[List.mem_singleton]at h
  omega
theorem Mq:∀(d n:Nat),bK (pd n d)=n%10^d
 | 0,n=>by rw[Nat.pow_zero,Nat.mod_one];rfl
 | d+1,n=>by
  rw[pd,sF,Mq d]
  have e:bK [48+n%10]=n%10:=by simp[bK]
  rw[e,Nat.pow_succ,Nat.mul_comm (10^d) 10,Nat.mod_mul]
  show n/10%10^d*10+n%10=_
  omega
theorem wB {n:Nat}(h:10≤n):tx n=tx (n/10)++[48+n%10]:=by
 unfold tx
 rw[if_neg (by omega),if_neg (by omega),kD (by omega) (by omega)]
 simp[cZ]
theorem Ae {n:Nat}(h:n<10):tx n=[48+n]:=by
 unfold tx
 split
 ·rename_i h0;subst h0;rfl
 rw[kD (by omega) (by omega),show n/10=0 by omega,gN,show n%10=n by omega];rfl
theorem Jx:∀(d n:Nat),List.replicate (d+1-(tx n).length) 48++tx n=tx (n/10^d)++pd n d
 | 0,n=>by
  have:1≤(tx n).length:=List.length_pos_iff.2 (oS n)
  rw[show 0+1-(tx n).length=0 by omega,Nat.pow_zero,Nat.div_one,pd,List.append_nil]
  rfl
 | d+1,n=>by
  rw[pd,←List.append_assoc,Nat.pow_succ,Nat.mul_comm,←Nat.div_div_eq_div_mul,←Jx d (n/10)]
  rcases Nat.lt_or_ge n 10 with h | h
  ·rw[Ae h,show n/10=0 by omega,Ae (n:=0) (by omega),show n%10=n by omega]
   show List.replicate (d+1) 48++_=List.replicate d 48++[48]++_
   rw[List.replicate_succ']
  rw[wB h,List.length_append,List.append_assoc]
  show List.replicate (d+1+1-((tx (n/10)).length+1)) 48++_=_
  rw[show d+1+1-((tx (n/10)).length+1)=d+1-(tx (n/10)).length by omega]
def wr (n d:Nat):List Nat:=tx (n/10^d)++(if d=0 then []else 46::pd n d)
def pt (z:Int) (d:Nat):List Nat:=if z<0 then 45::wr z.natAbs d else wr z.natAbs d
theorem Mr {l m:List Nat}(h:∀c∈l,48≤c∧c≤57) (hm:∀c,m.head?=some c→eJ c=false):(l++m).takeWhile eJ=l∧(l++m).dropWhile eJ=m:=by
 induction l with
 | nil=>
  cases m with
  | nil=>exact⟨rfl,rfl⟩
  | cons c m=>
   have:=hm c rfl
   simp[this]
 | cons x l ih=>
  have hx:eJ x=true:=decide_eq_true (h x (by simp))
  have h2:=ih (fun c hc=>h c (by simp[hc]))
  simp[hx,h2.1,h2.2]
theorem pP (n d:Nat):wh (wr n d)=tx (n/10^d)∧pl (wr n d)=pd n d∧rr (wr n d)=[]∧gX (cQ (wr n d))= !decide (d=0):=by
 have h1:=Mr (l:=tx (n/10^d)) (m:=if d=0 then []else 46::pd n d) (uA _) (by
  intro c hc
  split at hc
  ·cases hc
  injection hc with hc
  subst hc
  rfl)
 have h2:cQ (wr n d)=if d=0 then []else 46::pd n d:=h1.2
 have h3:wh (wr n d)=tx (n/10^d):=h1.1
 refine⟨h3,?_⟩
 by_cases h0:d=0
 ·subst h0
  rw[if_pos rfl]at h2
  have hp:gX (cQ (wr n 0))=false:=by rw[h2];rfl
  exact⟨Je hp,(Ru hp).trans h2,hp⟩
 rw[if_neg h0]at h2
 have hp:gX (cQ (wr n d))=true:=by rw[h2];rfl
 have h4:=Mr (l:=pd n d) (m:=[]) (Hc d n) (by intro c hc;cases hc)
 rw[List.append_nil]at h4
 refine⟨?_,?_,by rw[hp,decide_eq_false h0];rfl⟩
 ·unfold pl
  rw[if_pos hp,Jd hp,h2]
  exact h4.1
 unfold rr
 rw[if_pos hp,Jd hp,h2]
 exact h4.2
theorem Ms (n d:Nat):bK (wh (wr n d)++pl (wr n d))=n:=by
 obtain⟨h1,h2,_,_⟩:=pP n d
 rw[h1,h2,sF,AP,Mq,kG]
 exact Nat.div_add_mod' n (10^d)
theorem AY (n d:Nat):oI (wr n d)=true:=by
 obtain⟨h1,h2,h3,h4⟩:=pP n d
 have hg:=Vd (n/10^d)
 unfold oI
 rw[h1,h2,h3,h4]
 unfold hG at hg
 simp only[Bool.or_eq_false_iff,Bool.and_eq_false_iff,Bool.not_eq_false',decide_eq_true_eq,decide_eq_false_iff_not]at hg
 obtain⟨⟨g1,g2⟩,_⟩:=hg
 have e1:(!decide (d=0)&&decide (pd n d=[]))=false:=by
  by_cases h0:d=0
  ·simp[h0]
  have:pd n d≠[]:=fun h=>h0 (by rw[←kG d n,h];rfl)
  simp[this]
 rw[e1]
 rcases g2 with g2 | g2
 ·simp[g1,g2]
 simp[g1,g2]
theorem Vk {l:List Nat}(h:∀c∈l,48≤c∧c≤57):Gk l=decide (bK l=0):=by
 induction l with
 | nil=>rfl
 | cons c l ih=>
  have e:Gk (c::l)=(decide (c=48)&&Gk l):=rfl
  have e2:bK (c::l)=(c-48)*10^l.length+bK l:=by
   show List.foldl _ _ (c::l)=_
   rw[List.foldl_cons,Cl]
   simp
  have hc:=h c (by simp)
  have hp:0<10^l.length:=Nat.pow_pos (by omega)
  rw[e,ih (fun c hc=>h c (by simp[hc])),e2,←Bool.decide_and]
  refine decide_eq_decide.2 ⟨fun h=>by rw[h.1,h.2];simp,fun h=>?_⟩
  have h3:bK l=0:=by omega
  have h4:(c-48)*10^l.length=0:=by omega
  rcases Nat.mul_eq_zero.1 h4 with h5 | h5
  ·exact⟨by omega,h3⟩
  omega
theorem Vl (n d:Nat):∃c,(wr n d).take 1=[c]∧48≤c∧c≤57:=by
 have h:=uA (n/10^d)
 have h2:=oS (n/10^d)
 unfold wr
 cases hq:tx (n/10^d)with
 | nil=>exact absurd hq h2
 | cons x w=>exact⟨x,rfl,h x (by rw[hq];simp)⟩
theorem tN (z:Int) (d:Nat):fK (pt z d)=decide (z<0)∧aV (pt z d)=wr z.natAbs d:=by
 unfold pt
 by_cases h:z<0
 ·rw[if_pos h,decide_eq_true h]
  exact⟨rfl,rfl⟩
 rw[if_neg h,decide_eq_false h]
 obtain⟨c,h1,h2,h3⟩:=Vl z.natAbs d
 have h4:¬(wr z.natAbs d).take 1=[45]:=by
  rw[h1]
  intro e
  injection e with e
  omega
 exact⟨decide_eq_false h4,if_neg h4⟩
theorem EW (z:Int) (d:Nat):jF (pt z d)=true:=by
 obtain⟨h1,h2⟩:=tN z d
 unfold jF
 rw[h1,h2,AY,Bool.true_and]
 have e:Rs (wr z.natAbs d)=decide (z.natAbs=0):=by
  unfold Rs
  rw[Vk (Pv _),Ms]
 rw[e,←Bool.decide_and]
 simp
 omega
theorem Xr (z:Int) (d:Nat):Em (pt z d)=Rat.divInt z ((10^d:Nat):Int):=by
 obtain⟨h1,h2⟩:=tN z d
 unfold Em
 rw[h1,h2,Ms,(pP z.natAbs d).2.1,kG]
 congr 1
 unfold cP
 by_cases h:z<0
 ·rw[decide_eq_true h]
  simp
  omega
 rw[decide_eq_false h]
 simp
 omega
theorem Nz (z:Int) (d most:Nat):dU (pt z d) most=if d≤most then(if 40<(tx (z.natAbs/10^d)).length+d then 3 else 0)else 60:=by
 obtain⟨h1,h2⟩:=tN z d
 obtain⟨h3,h4,_,_⟩:=pP z.natAbs d
 unfold dU
 rw[EW,h2,h3,h4,kG]
 simp
def hal (q:Rat):Int:=if(q.den:Int)<2*q.num.fmod (q.den:Int)∨((q.den:Int)=2*q.num.fmod (q.den:Int)∧q.num.fdiv (q.den:Int)%2≠0)then q.num.fdiv (q.den:Int)+1 else q.num.fdiv (q.den:Int)
theorem IN (q:Rat):q.num=(q.den:Int)*q.num.fdiv (q.den:Int)+q.num.fmod (q.den:Int)∧0≤q.num.fmod (q.den:Int)∧q.num.fmod (q.den:Int)<(q.den:Int):=by
 have hd:(0:Int)<(q.den:Int):=by have:=q.den_pos;omega
 exact⟨(Int.mul_fdiv_add_fmod _ _).symm,Int.fmod_nonneg_of_pos _ hd,Int.fmod_lt_of_pos _ hd⟩
theorem EX {a d f r:Int}(hd:0<d) (h:a=d*f+r) (h0:0≤r) (h1:r<d):a.fdiv d=f∧a.fmod d=r:=by
 have e1:a.fdiv d=f:=by
  rw[Int.fdiv_eq_ediv_of_nonneg _ (Int.le_of_lt hd),h,Int.add_comm,Int.add_mul_ediv_left _ _ (by omega),Int.ediv_eq_zero_of_lt h0 h1,Int.zero_add]
 refine⟨e1,?_⟩
 have h2:=Int.mul_fdiv_add_fmod a d
 rw[e1]at h2
 omega
theorem wC (z:Int):hal (z:Rat)=z:=by
 unfold hal
 rw[Rat.num_intCast,Rat.den_intCast]
 obtain⟨e1,e2⟩:=EX (a:=z) (d:=((1:Nat):Int)) (f:=z) (r:=0) (by omega) (by omega) (by omega) (by omega)
 rw[e1,e2,if_neg (by omega)]
theorem Ad (q:Rat):2*((hal q:Int):Rat)-2*q≤1∧2*q-2*((hal q:Int):Rat)≤1:=by
 obtain⟨h1,h2,h3⟩:=IN q
 have hd:(0:Rat)<(q.den:Rat):=by have:=q.den_pos;exact_mod_cast this
 have hq:q*(q.den:Rat)=(q.num:Rat):=Rw q
 have hh:2*((q.den:Int)*hal q)-2*q.num≤(q.den:Int)∧2*q.num-2*((q.den:Int)*hal q)≤(q.den:Int):=by
  unfold hal
  split
  ·rw[Int.mul_add]
   omega
  omega
 generalize hal q=H at*
 have c1:(2*((H:Int):Rat)-2*q)*(q.den:Rat)≤1*(q.den:Rat):=by
  have:=(Rat.intCast_le_intCast).2 hh.1
  push_cast at this
  grind
 have c2:(2*q-2*((H:Int):Rat))*(q.den:Rat)≤1*(q.den:Rat):=by
  have:=(Rat.intCast_le_intCast).2 hh.2
  push_cast at this
  grind
 exact⟨Rat.le_of_mul_le_mul_right c1 hd,Rat.le_of_mul_le_mul_right c2 hd⟩
theorem Qm {p q:Rat}(h:0<(p-q).num.sign):q<p:=by
 have h1:=tL.1 (Int.sign_pos_iff.1 h)
 grind
theorem Xm {p q:Rat}(h:q<p):0<(p-q).num.sign:=Int.sign_pos_iff.2 (tL.2 (by grind))
theorem vW (k:Nat):(dg 4294967296 (10^k)).length≤k+1:=bM (by omega) (Nat.lt_of_le_of_lt (Nat.pow_le_pow_left (show 10≤4294967296 by omega) k) (Nat.pow_lt_pow_right (by omega) (by omega)))
theorem Cq {l:List Nat}(h:∀c∈l,48≤c∧c≤57):(dg 4294967296 (bK l)).length≤l.length:=by
 have h1:=oH h (Nat.le_refl l.length)
 rwa[List.take_length]at h1
def aX (n:Int):Nat:=(max 0 (min n 40)).toNat
def aK (q:Rat) (d:Nat):List Nat:=pt (hal (q*((10^d:Nat):Rat))) d
section
variable {f:Nat→Rat}{x y z:Nat}
end
theorem Xu {l:List Nat}{k:Nat}(h:k<l.length):l[k]? =some (nth l k):=by simp[nth,h]
section
variable {f:Nat→Rat}{n i s t:Nat}
variable {b:Int}
end
section
variable {l:List Rat}{i k t:Nat}
end
section
variable {l:List Rat}{i k:Nat}
end
end Go.Proofs.YtcaakamelngceaaGreatDoor
