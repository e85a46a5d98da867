/- Part 7 of a proof: RatL to Av25. -/
import Derived.Test.YtbbabfkgdnkehaaGreatM6
import Derived.Test.YtbbabfkgdnkehaaGreatM4
import Derived.Test.YtbbabfkgdnkehaaGreatM5
set_option maxRecDepth 100000
set_option linter.unusedVariables false
set_option linter.unusedSimpArgs false
namespace Go.Proofs.YtbbabfkgdnkehaaGreat
open Go Go.RowKit
theorem Hr {L M:Nat}{a b:Int}(ha:vR L a) (hb:vR M b):vR (L+M) (a*b):=Nat.le_trans (Qf a b) (Nat.add_le_add ha hb)
theorem Qh {a b:Int}(hb:0<b):(Rat.divInt a b).num.sign=a.sign:=by
 rw[(pR (N:=a) hb).1]
 have hg:0<Int.gcd a b:=Nat.gcd_pos_of_pos_right _ (by omega)
 have hd:((Int.gcd a b:Nat):Int)∣ a:=Int.gcd_dvd_left ..
 obtain⟨k,hk⟩:=hd
 generalize Int.gcd a b=g at*
 subst hk
 have h1:((g:Int)*k).fdiv g=k:=by
  rw[Int.fdiv_eq_ediv_of_nonneg _ (by omega)]
  exact Int.mul_ediv_cancel_left k (by omega)
 rw[h1,Int.sign_mul,Int.sign_eq_one_of_pos (show(0:Int)<g by omega),Int.one_mul]
theorem Yb (p q:Rat):(p.num*(q.den:Int)-q.num*(p.den:Int)).sign=(p-q).num.sign:=by
 have h:=tL p (-q)
 rw[Rat.neg_num,Rat.neg_den,Int.neg_mul,←Int.sub_eq_add_neg,←Rat.sub_eq_add_neg]at h
 rw[←h,Qh]
 exact Int.mul_pos (by have:=p.den_pos;omega) (by have:=q.den_pos;omega)
theorem NC {a:Rat}:a.num<0↔a<0:=by
 rw[Rat.lt_iff]
 simp
theorem GH {a:Rat}:0<a.num↔0<a:=by
 rw[Rat.lt_iff]
 simp
theorem Js (p q:Rat):(p-q).num.sign=if p<q then-1 else if p=q then 0 else 1:=by
 split
 ·rename_i h
  have h1:p-q<0:=by grind
  exact Int.sign_eq_neg_one_of_neg (NC.2 h1)
 split
 ·rename_i h
  subst h
  rw[show p-p=0 by grind]
  rfl
 rename_i h1 h2
 have h3:0<p-q:=by grind
 exact Int.sign_eq_one_of_pos (GH.2 h3)
theorem Sz.mono {L M:Nat}{q:Rat}(h:Sz L q) (hL:L≤M):Sz M q:=⟨Nat.le_trans h.1 hL,Nat.le_trans h.2 hL⟩
theorem tU {a b:Int}{L M:Nat}(hb:0<b) (ha:vR L a) (hb':vR M b):(dg 4294967296 (Rat.divInt a b).num.natAbs).length≤L∧(dg 4294967296 (Rat.divInt a b).den).length≤M:=by
 have h1:=(pR (N:=a) hb)
 have hg:0<Int.gcd a b:=Nat.gcd_pos_of_pos_right _ (by omega)
 constructor
 ·refine Nat.le_trans (dO (by omega) ?_) ha
  rw[h1.1]
  have hd:((Int.gcd a b:Nat):Int)∣ a:=Int.gcd_dvd_left ..
  obtain⟨k,hk⟩:=hd
  generalize Int.gcd a b=g at*
  subst hk
  rw[Int.fdiv_eq_ediv_of_nonneg _ (by omega),Int.mul_ediv_cancel_left k (by omega),Int.natAbs_mul]
  exact Nat.le_mul_of_pos_left _ (by omega)
 refine Nat.le_trans (dO (by omega) ?_) hb'
 have h2:((Rat.divInt a b).den:Int)≤b:=by
  rw[h1.2,Int.fdiv_eq_ediv_of_nonneg _ (by omega)]
  exact Int.ediv_le_self _ (by omega)
 omega
theorem yO {L M:Nat}{p q:Rat}(hp:Sz L p) (hq:Sz M q):Sz (L+M+1) (p+q):=by
 rw[←tL p q]
 have h1:=Hr hp.1 (Kk hq)
 have h2:=Hr hq.1 (Kk hp)
 have h3:=Hr (Kk hp) (Kk hq)
 have h4:vR (L+M+1) (p.num*q.den+q.num*p.den):=Qg _ _ h1 (Nat.le_trans h2 (by omega))
 have h5:=tU (Int.mul_pos (show(0:Int)<p.den by have:=p.den_pos;omega) (show(0:Int)<q.den by have:=q.den_pos;omega)) h4 h3
 exact⟨h5.1,Nat.le_trans h5.2 (by omega)⟩
theorem uV {L:Nat}{p:Rat}(hp:Sz L p):Sz L (-p):=⟨by rw[Rat.neg_num,Int.natAbs_neg];exact hp.1,by rw[Rat.neg_den];exact hp.2⟩
theorem jZ {L M:Nat}{p q:Rat}(hp:Sz L p) (hq:Sz M q):Sz (L+M+1) (p-q):=by
 rw[Rat.sub_eq_add_neg]
 exact yO hp (uV hq)
theorem yP {z:Int}(h1:-9223372036854775808≤z) (h2:z≤9223372036854775807):Sz 2 (z:Rat):=by
 refine⟨?_,?_⟩
 ·exact dK (by omega) (by show z.natAbs<_;omega)
 exact dK (by omega) (by show(1:Nat)<_;omega)
theorem Rk (p q:Rat):decide ((q-p).num.sign<0)=decide (q<p):=by
 rw[Js]
 by_cases h:q<p
 ·simp[h]
 by_cases h2:q=p
 ·subst h2;simp[h]
 simp[h,h2]
def aJ (p:Rat) (l:List Rat):Rat:=l.foldl (fun a b=>if b<a then b else a) p
def DL (p:Rat) (l:List Rat):Rat:=l.foldl (fun a b=>if a<b then b else a) p
theorem GI (p:Rat) (l:List Rat):aJ p l=p∨aJ p l∈l:=by
 unfold aJ
 induction l generalizing p with
 | nil=>exact .inl rfl
 | cons x l ih=>
  rw[List.foldl_cons]
  rcases ih (if x<p then x else p)with h | h
  ·rw[h]
   split
   ·exact .inr (by simp)
   exact .inl rfl
  exact .inr (List.mem_cons_of_mem _ h)
def aI (xs:List Nat):List Tr:=xs.map fun(n:Nat)=>.v (.int .u32 (n:Int))
def sU (o:Bool) (xs:List Nat):Tr:=.s o 113 1 xs.length (aI xs)
theorem gE (xs:List Nat):(aI xs).length=xs.length:=by simp[aI]
theorem PU (xs:List Nat):gQ ((aI xs).map .t)=true:=by
 induction xs with
 | nil=>rfl
 | cons x xs ih=>simpa[aI,gQ,qG]using ih
theorem DV (xs:List Nat):fE ((aI xs).map .t)=true:=by
 induction xs with
 | nil=>rfl
 | cons x xs ih=>simpa[aI,fE,lone]using ih
theorem fT (xs:List Nat):NoFrL (aI xs):=by
 induction xs with
 | nil=>simp[aI,NoFrL]
 | cons x xs ih=>simpa[aI,NoFrL,mY]using ih
structure Fr4 where
 s:Bool
 x:List Nat
 t:Bool
 y:List Nat
namespace Fr4
def tr (o:Bool) (a:Fr4):List Tr:=[.v (.bool a.s),sU o a.x,.v (.bool a.t),sU o a.y]
def q (a:Fr4):Rat:=zK a.s a.x a.t a.y
def of (q:Rat):Fr4:=⟨aM q.num,dg 4294967296 q.num.natAbs,false,dg 4294967296 q.den⟩
def ok (a:Fr4):Prop:=Lim 4294967296 a.x∧Lim 4294967296 a.y∧a.x.length≤68719476736∧a.y.length≤68719476736
theorem q_of (q:Rat):(of q).q=q:=TB q
end Fr4
def qF (a:Fr4):FV:=.agg ((a.tr false).map .t)
def qO (q:Rat):FV:=.agg (((Fr4.of q).tr true).map .t)
theorem sD (q:Rat):kL (qO q):=by
 simp only[kL,qO,qH,Fr4.tr,List.map_cons,List.map_nil,lM,tR,sU,mY]
 exact⟨trivial,.inl ⟨trivial,fT _⟩,trivial,.inl ⟨trivial,fT _⟩,trivial⟩
section
variable {W:World}{N:Nat→Prop}
theorem Ht {o:Bool}{xs:List Nat}{u:Value}(h:FR W N (sU o xs) u) (hl:Lim 4294967296 xs):∃A c,u=.slice A xs.length c∧LimR W N A xs.length c xs:=by
 simp only[sU,FR]at h
 obtain⟨A,c,rfl,h1,h2,h3,h4⟩:=h
 refine⟨A,c,rfl,rfl,h1,h2,hl,fun hn=>?_⟩
 rcases h4 with h4 | ⟨ad,rfl,h5,h6⟩
 ·omega
 refine⟨ad,rfl,h5,fun k u hk=>?_⟩
 simp only[hH,List.getElem?_map,Option.map_eq_some_iff]at hk
 obtain⟨m,hm,rfl⟩:=hk
 obtain⟨u,e1,e2⟩:=oZ h6 (j:=k) (x:=.v (.int .u32 (m:Int))) (by simp[aI,hm])
 simp only[FR]at e2
 rw[Nat.zero_add]at e1
 rw[e1,e2]
theorem zM {t:TypeId}{base n c:Nat}{A:Option Addr}{xs:List Nat}(h:Own t W base A n c xs):∃y:VT,y.val=.slice A n c∧OR W N (.s true t 1 xs.length (aI xs)) y∧y.ok W∧y.fp=(Value.slice A n c).ownBlock.toList:=by
 have hl:=h.len
 rcases h.row.2 with⟨h2,h3⟩ | ⟨g,cap,cur,hv,_,hg,hnc,hcm,hcs,htake⟩
 ·injection h2 with e1 e2 e3
  subst e1 e3
  subst h3
  have:xs=[]:=List.eq_nil_of_length_eq_zero hl
  subst this
  exact⟨.w (.slice none 0 0),rfl,by simp[OR,aI],by simp[VT.ok],by simp[VT.fp,Value.ownBlock]⟩
 injection hv with e1 e2 e3
 subst e1 e3
 have hor:ORL W N (aI xs) ((hH xs).map VT.w):=by
  clear hl htake h
  induction xs with
  | nil=>simp[aI,hH,ORL]
  | cons x xs ih=>simpa[aI,hH,ORL,OR]using ih
 refine⟨.s g c t 1 n ((hH xs).map .w),rfl,?_,?_,by simp[VT.fp,oK,Value.ownBlock]⟩
 ·simp only[OR]
  exact⟨trivial,hl.symm,trivial,trivial,hor⟩
 simp only[VT.ok]
 refine⟨⟨cur.toList.drop (n*1),?_,?_⟩,hnc,hcm,by simp[kG,hl],xC _⟩
 ·rw[xE,←htake,List.take_append_drop]
  simpa using hg
 rw[xE,←htake,List.take_append_drop]
 simpa using hcs
end
section
variable {f:FuncId}{args:List FV}
theorem zN {N:Nat→Prop}{w:World}{cs:List Co}{us:List Value}(hL:Loc ((aF (aT []) cs).flatMap Res.S) w w (aF (aT []) cs) [(Nn [] cs args us).on N]):cs=[]∧dR w (fun b=>b<w.heap.size∧N b) [] args us:=by
 have h:=Sh.off (hL.sh 0 rfl)
 have hc:cs=[]:=List.eq_nil_of_length_eq_zero (by have:=h.1.1;simpa[aT]using this.symm)
 subst hc
 exact⟨rfl,lB (fun _ _=>rfl) (fun b hb=>⟨hb.1.1,hb.2⟩) .refl _ _ h.2⟩
theorem Ended.mk0 {fresh:Bool}{N:Nat→Prop}{M:List Nat}{w W:World}{R:List Lt→FV→Prop}{v:Value}{r:FV}{y:List VT}(hR:R [] r) (hb:Below w.heap.size w W) (hok:VT.okL W y) (hnd:(VT.fpL y).Nodup) (hfp:∀b∈VT.fpL y,w.heap.size≤b∧b<W.heap.size)
  (hro:RO W (fun b=>fresh=false∧(b<W.heap.size∧b∉VT.fpL y)∧(N b∨w.heap.size≤b)) [] r v y):Ended fresh N M w [] [] R (.returned v) W:=by
 refine⟨v,[],[],r,y,rfl,hR,rfl,fun _ _ _ h=>by simp at h,rfl,.refl,?_⟩
 refine⟨⟨hb.os,hb.tape,hb.output,hb.size,fun k hk _=>hb.block k hk⟩,fun q hq=>?_,fun b hb=>?_,by simpa[aT,aF,eN]using hnd,fun q hq=>?_⟩
 ·simp[aT,aF]at hq
  subst hq
  exact hok
 ·have:=hfp b (by simpa[aT,aF,eN]using hb)
  exact⟨.inr this.1,this.2⟩
 simp at hq
 subst hq
 refine⟨⟨rfl,fun k o hk=>by simp[aT]at hk⟩,nL (fun _ _=>rfl) (fun b hb=>⟨hb.1,⟨⟨hb.2.1.1,?_⟩,hb.2.2.elim .inl fun h=>.inr (.inr h)⟩⟩) .refl hro⟩
 simpa[aT,aF,eN]using hb.2.1.2
theorem GJ {v:Value}(h:∀(N:Nat→Prop) (w:World) us,dR w N [] args us→(∀b,N b→b<w.heap.size)→Calls Tryz.prog f us.toArray w (fun e w'=>e=.returned v∧Below w.heap.size w w')):aG true Tryz.prog f [] args (aU (.one (tv v))):=by
 intro N w cs us hL
 obtain⟨rfl,hf⟩:=zN hL
 refine(h _ w us hf (fun b hb=>hb.1)).mono ?_
 rintro e W ⟨rfl,hb⟩
 refine .mk0 (y:=[.w v]) rfl hb (by simp[VT.okL,VT.ok]) (by simp[VT.fpL,VT.fp]) (by simp[VT.fpL,VT.fp]) ⟨.w v,rfl,rfl,?_⟩
 simp[CR,tv,OR]
end
theorem Ov {W:World}{N:Nat→Prop}{a b:FV}{us:List Value}(h:dR W N [] [a,b] us):∃u v,us=[u,v]∧bZ W N [] a u∧bZ W N [] b v:=by
 match us,h with
 | [u,v],h=>
  simp only[dR]at h
  exact⟨u,v,rfl,h.1,h.2.1⟩
 | [],h=>simp only[dR]at h
 | [_],h=>simp only[dR]at h;exact h.2.elim
 | _::_::_::_,h=>simp only[dR]at h;exact absurd h.2.2 (by simp)
theorem GK {W:World}{N:Nat→Prop}{a:FV}{us:List Value}(h:dR W N [] [a] us):∃u,us=[u]∧bZ W N [] a u:=by
 match us,h with
 | [u],h=>
  simp only[dR]at h
  exact⟨u,rfl,h.1⟩
 | [],h=>simp only[dR]at h
 | _::_::_,h=>simp only[dR]at h;exact absurd h.2 (by simp)
section
variable {a b:Fr4}
end
theorem nR (xs:List Nat){k:Nat}(h:k<xs.length):((aI xs).drop (k*1)).take [Tr.v (.int .u32 ((nth xs k:Nat):Int))].length=[Tr.v (.int .u32 ((nth xs k:Nat):Int))]:=by
 rw[Nat.mul_one]
 have:(aI xs)[k]? =some (Tr.v (.int .u32 ((nth xs k:Nat):Int))):=by simp[aI,eR h,h]
 rw[List.length_singleton,List.take_one]
 simp[this]
theorem kM {x:Cx}{g:Nat→FV}{ob:List (Option Ob)}(h0:x.c0.length=0) (τ:List Nat) (live:List (Nat×FV)) (os:List Ob) (hn:τ.Nodup) (h1:sH τ g live) (h2:iO τ ob τ os):Sub x g ob (bS live) (os.map some):=
 su τ (fun k hk=>by rw[h0]at hk;cases hk) live os hn h1 h2
theorem DW {xs ys:List Nat}{k:Nat}(h:xs.take k=ys.take k) (h1:k<xs.length) (h2:k<ys.length) (he:nth xs k=nth ys k):xs.take (k+1)=ys.take (k+1):=by
 rw[List.take_add_one,List.take_add_one,h]
 rw[eR h1,eR h2]at he
 simp[dC h1,dC h2,he]
theorem bP (xs:List Nat):((aI xs).map AV.t).take (xs.length*1)=(aI xs).map .t:=by rw[Nat.mul_one,fF (by simp[gE])]
theorem aP (xs:List Nat):(aI xs).length=xs.length*1:=by simp[gE]
def rO (a:Fr4):FV:=.agg ((a.tr true).map .t)
theorem uS (a:Fr4):kL (rO a):=by
 simp only[kL,rO,qH,Fr4.tr,List.map_cons,List.map_nil,lM,tR,sU,mY]
 exact⟨trivial,.inl ⟨trivial,fT _⟩,trivial,.inl ⟨trivial,fT _⟩,trivial⟩
theorem yU {a b:Fr4}:a=b↔(a.s=b.s∧a.t=b.t)∧a.x=b.x∧a.y=b.y:=by
 obtain⟨s,x,t,y⟩:=a
 obtain⟨s',x',t',y'⟩:=b
 simp only[Fr4.mk.injEq]
 constructor
 ·rintro⟨h1,h2,h3,h4⟩
  exact⟨⟨h1,h3⟩,h2,h4⟩
 rintro⟨⟨h1,h3⟩,h2,h4⟩
 exact⟨h1,h2,h3,h4⟩
instance:DecidableEq Fr4:=fun a b=>decidable_of_iff _ yU.symm
def Fr4.len (a:Fr4) (m:Nat):Prop:=a.x.length≤m∧a.y.length≤m
theorem aW {x:Cx}{g:Nat→FV}{ob:List (Option Ob)}{live:List (Nat×FV)}{os:List Ob}(h0:x.c0.length=0) (τ:List Nat) (h2:iO τ ob τ os) (hn:τ.Nodup:=by decide) (h1:sH τ g live:=by repeat' first | exact trivial | refine⟨rfl,?_⟩):Sub x g ob (bS live) (os.map some):=kM h0 τ live os hn h1 h2
def hv:List Nat→List Nat
 | []=>[]
 | x::xs=>x%65536::x/65536::hv xs
def lb:List Nat→List Nat
 | []=>[]
 | [a]=>[a]
 | a::b::l=>(a+65536*b)::lb l
theorem Ji:∀(a b:List Nat),hv (a++b)=hv a++hv b
 | [],_=>rfl
 | x::xs,b=>by simp only[List.cons_append,hv,Ji xs b]
theorem rV:∀(a:List Nat),(hv a).length=2*a.length
 | []=>rfl
 | x::xs=>by simp only[hv,List.length_cons,rV xs];omega
theorem AW:∀{a:List Nat},Lim 4294967296 a→Lim 65536 (hv a)
 | [],_=>Lim.nil
 | x::xs,h=>Lim.cons (Nat.mod_lt _ (by omega)) (Lim.cons (by have:=h.head;omega) (AW h.tail))
theorem JD:∀(a:List Nat),vl 65536 (hv a)=vl 4294967296 a
 | []=>rfl
 | x::xs=>by
  simp only[hv,gW,JD xs]
  have:=Nat.mod_add_div x 65536
  omega
theorem HH {a:List Nat}(h:Lim 4294967296 a):trim (hv a)=dg 65536 (vl 4294967296 a):=by rw[←JD,fY (by omega) (AW h)]
theorem Qq {a:List Nat}{k:Nat}(h:k<a.length):hv (a.take (k+1))=hv (a.take k)++[nth a k%65536,nth a k/65536]:=by
 rw[qL h,Ji]
 rfl
theorem JE:∀(a:List Nat),vl 4294967296 (lb a)=vl 65536 a
 | []=>rfl
 | [a]=>by simp[lb,uD]
 | a::b::l=>by
  simp only[lb,gW,JE l]
  omega
theorem AX:∀{a:List Nat},Lim 65536 a→Lim 4294967296 (lb a)
 | [],_=>Lim.nil
 | [a],h=>Lim.cons (by have:=h.head;omega) Lim.nil
 | a::b::l,h=>Lim.cons (by have:=h.head;have:=h.tail.head;omega) (AX h.tail.tail)
theorem jN:∀(a:List Nat),(lb a).length=(a.length+1)/2
 | []=>rfl
 | [a]=>by simp[lb]
 | a::b::l=>by simp only[lb,List.length_cons,jN l];omega
theorem TC {a:List Nat}(h:lb a=[]):a=[]:=by
 rcases a with _ | ⟨x,_ | ⟨y,l⟩⟩
 ·rfl
 ·simp[lb]at h
 simp[lb]at h
theorem Tp:∀{a:List Nat},trim a=a→trim (lb a)=lb a
 | [],_=>rfl
 | [a],h=>h
 | a::b::l,h=>by
  have hl:trim l=l:=by
   rw[fP]at h
   split at h
   ·cases h
   injection h with _ h
   rw[fP]at h
   split at h
   ·cases h
   injection h
  have ih:=Tp hl
  simp only[lb]
  rw[fP,ih]
  split
  ·rename_i hc
   have h0:=TC hc.1
   subst h0
   rw[fP,fP,BX]at h
   have hb:b=0:=by omega
   have ha:a=0:=by omega
   subst hb ha
   simp at h
  rfl
theorem zZ (v:Nat):lb (dg 65536 v)=dg 4294967296 v:=by
 have h:=Tp (uF (B:=65536) (by omega) v)
 rw[←h,←fY (B:=4294967296) (by omega) (AX (aR (by omega) v)),JE,cM (by omega)]
theorem Bk:∀{l:List Nat}{k:Nat},2*k<l.length→lb (l.take (2*(k+1)))=lb (l.take (2*k))++[nth l (2*k)+65536*nth l (2*k+1)]
 | [],_,h=>by simp at h
 | [a],0,_=>by simp[lb,nth]
 | [a],k+1,h=>by simp at h
 | a::b::l,0,_=>by simp[lb,nth]
 | a::b::l,k+1,h=>by
  have ih:=Bk (l:=l) (k:=k) (by simp at h;omega)
  have e1:2*(k+1+1)=2*(k+1)+1+1:=by omega
  have e2:2*(k+1)=2*k+1+1:=by omega
  rw[e1,List.take_succ_cons,List.take_succ_cons]
  simp only[lb]
  rw[ih,e2,List.take_succ_cons,List.take_succ_cons]
  simp only[lb,List.cons_append]
  simp[nth]
theorem fJ {v L:Nat}(h:(dg 4294967296 v).length≤L):(dg 65536 v).length≤2*L:=by
 have h1:=qX (B:=4294967296) (by omega) (n:=v)
 refine dK (by omega) (Nat.lt_of_lt_of_le h1 ?_)
 rw[Nat.pow_mul]
 exact Nat.pow_le_pow_right (by omega) h
theorem Ow {X Y os:List Nat}{k cr:Nat}(hl:os.length=k) (h:vl 65536 os+65536^k*cr=vl 65536 (X.take k)+vl 65536 (Y.take k)):
  vl 65536 (os++[(nth X k+nth Y k+cr)%65536])+65536^(k+1)*((nth X k+nth Y k+cr)/65536)=vl 65536 (X.take (k+1))+vl 65536 (Y.take (k+1)):=by
 rw[nB,bY,bY,hl,Nat.pow_succ,Nat.mul_assoc]
 have h2:=Nat.mod_add_div (nth X k+nth Y k+cr) 65536
 have h3:65536^k*(nth X k+nth Y k+cr)=65536^k*((nth X k+nth Y k+cr)%65536)+65536^k*(65536*((nth X k+nth Y k+cr)/65536)):=by rw[←Nat.mul_add,h2]
 rw[Nat.mul_add,Nat.mul_add]at h3
 omega
theorem Ox {X Y os:List Nat}{k br br' d:Nat}(hl:os.length=k) (h:vl 65536 os+vl 65536 (Y.take k)=vl 65536 (X.take k)+65536^k*br) (hd:d+nth Y k+br=nth X k+65536*br'):
  vl 65536 (os++[d])+vl 65536 (Y.take (k+1))=vl 65536 (X.take (k+1))+65536^(k+1)*br':=by
 rw[nB,bY,bY,hl,Nat.pow_succ,Nat.mul_assoc]
 have h3:65536^k*(d+nth Y k+br)=65536^k*(nth X k+65536*br'):=by rw[hd]
 rw[Nat.mul_add,Nat.mul_add,Nat.mul_add]at h3
 omega
theorem TD {a b:Nat}(h:¬((a:Int)-(b:Int)).sign<0):b≤a:=by
 rcases Nat.lt_or_ge a b with h1 | h1
 ·exact absurd (by rw[Int.sign_eq_neg_one_of_neg (by omega)];omega) h
 exact h1
theorem TE {a b:Nat}(h:((a:Int)-(b:Int)).sign<0):a<b:=by
 rcases Nat.lt_or_ge a b with h1 | h1
 ·exact h1
 exact absurd (Int.sign_neg_iff.1 h) (by omega)
theorem Km {X Y:List Nat}{k:Nat}(hX:Lim 65536 X) (hk:∀j,k+1≤j→nth X j=nth Y j) (h:nth X k<nth Y k):vl 65536 X<vl 65536 Y:=by
 have hS:∀m,vl 65536 (X.take (k+1+m))+vl 65536 (Y.take (k+1))=vl 65536 (Y.take (k+1+m))+vl 65536 (X.take (k+1)):=by
  intro m
  induction m with
  | zero=>exact Nat.add_comm _ _
  | succ m ih=>
   rw[←Nat.add_assoc,bY 65536 X (k+1+m),bY 65536 Y (k+1+m),hk (k+1+m) (by omega)]
   omega
 have h1:=hS (X.length+Y.length)
 rw[cE 65536 (l:=X) (k:=k+1+(X.length+Y.length)) (by omega),cE 65536 (l:=Y) (k:=k+1+(X.length+Y.length)) (by omega)]at h1
 have h2:vl 65536 (X.take (k+1))<vl 65536 (Y.take (k+1)):=by
  rw[bY,bY]
  have h3:=fX (hX.take k)
  have h4:65536^(X.take k).length≤65536^k:=Nat.pow_le_pow_right (by omega) (by rw[eA];omega)
  have h5:65536^k*(nth X k+1)≤65536^k*nth Y k:=Nat.mul_le_mul_left _ h
  rw[Nat.mul_add]at h5
  omega
 omega
theorem Xd {X Y:List Nat}(h:∀j,nth X j=nth Y j):vl 65536 X=vl 65536 Y:=by
 have hS:∀m,vl 65536 (X.take m)=vl 65536 (Y.take m):=by
  intro m
  induction m with
  | zero=>rfl
  | succ m ih=>rw[bY,bY,ih,h]
 have h1:=hS (X.length+Y.length)
 rwa[cE 65536 (l:=X) (k:=X.length+Y.length) (by omega),cE 65536 (l:=Y) (k:=X.length+Y.length) (by omega)]at h1
def fH (xs:List Nat):List Tr:=xs.map fun(n:Nat)=>.v (.int .i64 (n:Int))
def sI (o:Bool) (xs:List Nat):Tr:=.s o 3 1 xs.length (fH xs)
theorem iV (xs:List Nat):(fH xs).length=xs.length:=by simp[fH]
theorem gJ (xs:List Nat){k:Nat}(h:k<xs.length):((fH xs).drop (k*1)).take [Tr.v (.int .i64 ((nth xs k:Nat):Int))].length=[Tr.v (.int .i64 ((nth xs k:Nat):Int))]:=by
 rw[Nat.mul_one]
 have:(fH xs)[k]? =some (Tr.v (.int .i64 ((nth xs k:Nat):Int))):=by simp[fH,eR h,h]
 rw[List.length_singleton,List.take_one]
 simp[this]
theorem iW (xs ys:List Nat):(fH xs).map AV.t++(fH ys).map .t=(fH (xs++ys)).map .t:=by simp[fH]
theorem Oy (xs ys:List Nat):(aI xs).map AV.t++(aI ys).map .t=(aI (xs++ys)).map .t:=by simp[aI]
theorem AY (xs:List Nat) (k:Nat):(fH xs).take (k*1)=fH (xs.take k):=by simp[fH,List.map_take]
theorem Xb {xs:List Nat}{m:Nat}(h:m≤xs.length):FV.one (.t (.s false 3 1 m ((fH xs).take (m*1))))=.one (.t (sI false (xs.take m))):=by
 rw[AY]
 unfold sI
 rw[eA,Nat.min_eq_left h]
theorem OQ (xs:List Nat):gQ ((fH xs).map .t)=true:=by
 induction xs with
 | nil=>rfl
 | cons x xs ih=>simpa[fH,gQ,qG]using ih
theorem CP (xs:List Nat):fE ((fH xs).map .t)=true:=by
 induction xs with
 | nil=>rfl
 | cons x xs ih=>simpa[fH,fE,lone]using ih
theorem lR (a b:Nat):Int.tmod (a:Int) (b:Int)=((a%b:Nat):Int):=by
 rw[Int.tmod_eq_emod_of_nonneg (by omega)]
 rfl
theorem gR (a b:Nat):Int.tdiv (a:Int) (b:Int)=((a/b:Nat):Int):=by
 rw[Int.tdiv_eq_ediv_of_nonneg (by omega)]
 rfl
theorem iT {k:IntKind}{a:Nat}(b:Nat) (hb:b≠0) (h:jD k (a:Int)):(b:Int)≠0∧jD k (Int.tdiv (a:Int) (b:Int)):=by
 refine⟨by omega,?_⟩
 rw[gR]
 have:=Nat.div_le_self a b
 generalize a/b=c at this⊢
 cases k <;> simp only[jD]at h⊢ <;> omega
section
variable {x:Cx}{g:Nat→FV}{ob:List (Option Ob)}
theorem Bn {i k n:Nat}{zs zs':List Nat}(hi:Nat.blt i x.n=true) (hg:g i=.one (.sl k 0 n)) (ho:bX ob k=some ⟨3,1,(fH zs).map .t⟩) (hn:n=zs.length) (he:zs=zs'):Sub x g ob (bF g i (.one (.t (sI false zs')))) (ob.set k none):=by
 subst he
 have:=fz hi hg ho (by rw[iV,hn,Nat.mul_one])
 rw[hn]at this
 exact this
theorem fzU {i k n:Nat}{zs zs':List Nat}(hi:Nat.blt i x.n=true) (hg:g i=.one (.sl k 0 n)) (ho:bX ob k=some ⟨113,1,(aI zs).map .t⟩) (hn:n=zs.length) (he:zs=zs'):Sub x g ob (bF g i (.one (.t (sU false zs')))) (ob.set k none):=by
 subst he
 have:=fz hi hg ho (by rw[gE,hn,Nat.mul_one])
 rw[hn]at this
 exact this
theorem nS {τ:List Nat}{a:Option Ob}{xs ys:List Nat}{l:List AV}(h1:a=some ⟨3,1,l⟩) (h:l=(fH ys).map .t) (he:ys=xs):Bq τ a ⟨3,1,(fH xs).map .t⟩:=aC (by rw[h1,h,he])
theorem Xc {τ:List Nat}{a:Option Ob}{xs ys:List Nat}{l:List AV}(h1:a=some ⟨113,1,l⟩) (h:l=(aI ys).map .t) (he:ys=xs):Bq τ a ⟨113,1,(aI xs).map .t⟩:=aC (by rw[h1,h,he])
end
section
variable {l:List Nat}{k N:Nat}{z:Int}{xs:List Nat}{neg:Bool}
theorem Ff (hr:dU neg xs=false):fA neg xs=0:=by simp[fA,hr]
theorem nQ (h:xs.length=0):dU neg xs= !neg:=by
 rw[List.length_eq_zero_iff]at h
 subst h
 simp[dU]
theorem vY {n:Nat}(hn:xs.length=n) (h:0<n):dU neg xs=decide (((nth xs (n-1):Nat):Int)≠0):=by
 subst hn
 rcases xs with _ | ⟨x,l⟩
 ·simp at h
 simp only[dU,List.isEmpty_cons,Bool.false_and,Bool.not_false,Bool.true_and,Bool.false_or]
 by_cases h0:nth (x::l) ((x::l).length-1)=0
 ·rw[h0];rfl
 rw[bne_iff_ne.2 h0,decide_eq_true (by omega)]
theorem Ql (k:Int):cD (!(aM k)) k.natAbs=-k:=by
 unfold cD aM
 by_cases h:k<0 <;> simp[h] <;> omega
theorem Fs {xs ys:List Nat}(hx:Lim 4294967296 xs) (hy:Lim 4294967296 ys):(dg 4294967296 (vl 4294967296 xs+vl 4294967296 ys)).length≤xs.length+ys.length+1:=by
 refine dK (by omega) ?_
 have h1:=fX hx
 have h2:=fX hy
 have h3:4294967296^xs.length≤4294967296^(xs.length+ys.length):=Nat.pow_le_pow_right (by omega) (by omega)
 have h4:4294967296^ys.length≤4294967296^(xs.length+ys.length):=Nat.pow_le_pow_right (by omega) (by omega)
 rw[Nat.pow_succ]
 omega
theorem Qm {xs ys:List Nat}(hx:Lim 4294967296 xs):(dg 4294967296 (vl 4294967296 xs-vl 4294967296 ys)).length≤xs.length:=dK (by omega) (Nat.lt_of_le_of_lt (Nat.sub_le _ _) (fX hx))
theorem ND {xs ys:List Nat}(hx:Lim 4294967296 xs) (hy:Lim 4294967296 ys):(dg 4294967296 (vl 4294967296 xs*vl 4294967296 ys)).length≤xs.length+ys.length:=by
 refine dK (by omega) ?_
 rw[Nat.pow_add]
 exact Nat.mul_lt_mul'' (fX hx) (fX hy)
theorem bU (k:Int):vl 4294967296 (dg 4294967296 k.natAbs)=k.natAbs:=cM (by omega) _
theorem jO {a b:Nat}(h:a≤b):(dg 4294967296 a).length≤(dg 4294967296 b).length:=dO (by omega) h
theorem lI (k k':Int):(dg 4294967296 (k+k').natAbs).length≤(dg 4294967296 k.natAbs).length+(dg 4294967296 k'.natAbs).length+1:=by
 have h:=Fs (aR (B:=4294967296) (by omega) k.natAbs) (aR (B:=4294967296) (by omega) k'.natAbs)
 rw[bU,bU]at h
 exact Nat.le_trans (jO (by omega)) h
theorem Oz (k k':Int):(dg 4294967296 (k-k').natAbs).length≤(dg 4294967296 k.natAbs).length+(dg 4294967296 k'.natAbs).length+1:=by
 have h:=lI k (-k')
 rw[Int.natAbs_neg]at h
 exact h
theorem gH (k k':Int):(dg 4294967296 (k*k').natAbs).length≤(dg 4294967296 k.natAbs).length+(dg 4294967296 k'.natAbs).length:=by
 rw[Int.natAbs_mul]
 have h:=ND (aR (B:=4294967296) (by omega) k.natAbs) (aR (B:=4294967296) (by omega) k'.natAbs)
 rwa[bU,bU]at h
theorem lC (k:Int):(dg 4294967296 (-(k)).natAbs).length=(dg 4294967296 k.natAbs).length:=by rw[Int.natAbs_neg]
theorem CH {n:Int}(h1:-9223372036854775808≤n) (h2:n≤9223372036854775807):-4294967295≤Int.tmod n 4294967296∧Int.tmod n 4294967296≤4294967295∧-2147483648≤Int.tdiv n 4294967296∧Int.tdiv n 4294967296≤2147483648∧(Int.tmod n 4294967296).natAbs+4294967296*(Int.tdiv n 4294967296).natAbs=n.natAbs∧True:=by
 obtain⟨m,hm⟩:∃m:Nat,n.natAbs=m:=⟨_,rfl⟩
 rw[hm]
 rcases(show n=m∨n=-(m:Int) by omega)with h | h
 ·subst h
  have e1:Int.tmod (m:Int) 4294967296=((m%4294967296:Nat):Int):=by rw[Int.tmod_eq_emod_of_nonneg (by omega)];omega
  have e2:Int.tdiv (m:Int) 4294967296=((m/4294967296:Nat):Int):=by rw[Int.tdiv_eq_ediv_of_nonneg (by omega)];omega
  rw[e1,e2]
  exact⟨by omega,by omega,by omega,by omega,by rw[Int.natAbs_natCast,Int.natAbs_natCast];omega,trivial⟩
 subst h
 have e1:Int.tmod (-(m:Int)) 4294967296=-((m%4294967296:Nat):Int):=by rw[Int.neg_tmod,Int.tmod_eq_emod_of_nonneg (by omega)];omega
 have e2:Int.tdiv (-(m:Int)) 4294967296=-((m/4294967296:Nat):Int):=by rw[Int.neg_tdiv,Int.tdiv_eq_ediv_of_nonneg (by omega)];omega
 rw[e1,e2]
 exact⟨by omega,by omega,by omega,by omega,by rw[Int.natAbs_neg,Int.natAbs_neg,Int.natAbs_natCast,Int.natAbs_natCast];omega,trivial⟩
theorem OM {n:Int}{a b:Nat}(h:a+4294967296*b=n.natAbs):cD (decide (n<0)) (vl 4294967296 [a,b])=n:=by
 have e:vl 4294967296 [a,b]=n.natAbs:=by simp[vl];omega
 rw[e]
 exact Oq n
theorem Ig {k k':Int}{s:Bool}(h:s=aM k) (h':aM k=aM k'):cD s (k.natAbs+k'.natAbs)=k+k':=by
 subst h
 unfold aM at*
 unfold cD
 by_cases h1:k<0 <;> by_cases h2:k'<0 <;> simp[h1,h2]at h'⊢ <;> omega
theorem Qo {k k':Int}{s:Bool}(h:s=aM k) (h':aM k≠aM k') (hl:¬k.natAbs<k'.natAbs):cD s (k.natAbs-k'.natAbs)=k+k':=by
 subst h
 unfold aM at*
 unfold cD
 by_cases h1:k<0 <;> by_cases h2:k'<0 <;> simp[h1,h2]at h'⊢ <;> omega
theorem Qp {k k':Int}{s:Bool}(h:s=aM k') (h':aM k≠aM k') (hl:k.natAbs<k'.natAbs):cD s (k'.natAbs-k.natAbs)=k+k':=by
 subst h
 unfold aM at*
 unfold cD
 by_cases h1:k<0 <;> by_cases h2:k'<0 <;> simp[h1,h2]at h'⊢ <;> omega
theorem Uk {X os:List Nat}{k q:Nat}{a:Nat}(hk:0<k) (hkx:k≤X.length) (hos:os.length=X.length){v r:Nat}(h:vl 65536 (X.drop k)=v*vl 65536 (os.drop k)+r) (ha:a=nth X (k-1)) (hq:q=(a+65536*r)/v):
  vl 65536 (X.drop (k-1))=v*vl 65536 ((os.set (k-1) q).drop (k-1))+(a+65536*r-q*v):=by
 obtain⟨j,rfl⟩:∃j,k=j+1:=⟨k-1,by omega⟩
 simp only[Nat.add_sub_cancel]at*
 have e1:X.drop j=nth X j::X.drop (j+1):=by rw[List.drop_eq_getElem_cons (by omega),eR (by omega)]
 have e2:(os.set j q).drop j=q::os.drop (j+1):=by
  rw[List.drop_eq_getElem_cons (by rw[List.length_set];omega),List.getElem_set_self,List.drop_set_of_lt (by omega)]
 have h2:q*v≤a+65536*r:=by rw[hq];exact Nat.div_mul_le_self _ _
 rw[e1,e2,gW,gW,h,Nat.mul_add,Nat.mul_add,Nat.mul_comm v q,Nat.mul_left_comm v 65536,←ha]
 omega
theorem yH {xs ys:List Nat}(hx:Lim 65536 xs) (hy:Lim 65536 ys):(dg 65536 (vl 65536 xs*vl 65536 ys)).length≤xs.length+ys.length:=by
 refine dK (by omega) ?_
 rw[Nat.pow_add]
 exact Nat.mul_lt_mul'' (fX hx) (fX hy)
theorem CL {u v n m:Nat}(hn:(dg 65536 u).length=n) (hm:(dg 65536 v).length=m) (h:n≠m):decide ((n:Int)<(m:Int))=decide (u<v):=by
 have e1:=cM (B:=65536) (by omega) u
 have e2:=cM (B:=65536) (by omega) v
 rcases Nat.lt_or_gt_of_ne h with h1 | h1
 ·have h2:=jK (B:=65536) (a:=dg 65536 u) (b:=dg 65536 v) (by omega) (aR (by omega) u) (uF (by omega) v) (by omega)
  rw[decide_eq_true (by omega),decide_eq_true (by omega)]
 have h2:=jK (B:=65536) (a:=dg 65536 v) (b:=dg 65536 u) (by omega) (aR (by omega) v) (uF (by omega) u) (by omega)
 rw[decide_eq_false (by omega),decide_eq_false (by omega)]
theorem KI {u v k:Nat}(hag:∀j,k+1≤j→nth (dg 65536 u) j=nth (dg 65536 v) j) (h:nth (dg 65536 u) k≠nth (dg 65536 v) k):decide (((nth (dg 65536 u) k:Nat):Int)<((nth (dg 65536 v) k:Nat):Int))=decide (u<v):=by
 have e1:=cM (B:=65536) (by omega) u
 have e2:=cM (B:=65536) (by omega) v
 rcases Nat.lt_or_gt_of_ne h with h1 | h1
 ·have h2:=Km (aR (by omega) u) hag h1
  rw[decide_eq_true (by omega),decide_eq_true (by omega)]
 have h2:=Km (aR (by omega) v) (fun j hj=>(hag j hj).symm) h1
 rw[decide_eq_false (by omega),decide_eq_false (by omega)]
theorem tC {X Y os:List Nat}{n k br br' d:Nat}(hl:os.length=k) (h:vl 65536 os+n*vl 65536 (Y.take k)=vl 65536 (X.take k)+65536^k*br) (hd:d+n*nth Y k+br=nth X k+65536*br'):
  vl 65536 (os++[d])+n*vl 65536 (Y.take (k+1))=vl 65536 (X.take (k+1))+65536^(k+1)*br':=by
 rw[nB,bY,bY,hl,Nat.pow_succ,Nat.mul_assoc,Nat.mul_add,Nat.mul_left_comm n]
 have h3:65536^k*(d+n*nth Y k+br)=65536^k*(nth X k+65536*br'):=by rw[hd]
 rw[Nat.mul_add,Nat.mul_add,Nat.mul_add]at h3
 omega
theorem CM {u v n k br ln:Nat}{os:List Nat}(hx:(dg 65536 u).length=ln) (hk:os.length=ln) (hol:Lim 65536 os) (h:vl 65536 os+n*vl 65536 ((dg 65536 v).take k)=vl 65536 ((dg 65536 u).take k)+65536^k*br) (hnv:n*v≤u) (hkk:k=ln:=by omega):vl 65536 os=u-n*v:=by
 have h1:=fX hol
 rw[cE 65536 (l:=dg 65536 u) (by omega),cM (by omega)]at h
 have h2:n*vl 65536 ((dg 65536 v).take k)=n*v:=by
  rcases Nat.eq_zero_or_pos n with h0 | h0
  ·rw[h0,Nat.zero_mul,Nat.zero_mul]
  have h3:v≤u:=Nat.le_trans (Nat.le_mul_of_pos_left v h0) hnv
  have h4:=dO (B:=65536) (by omega) h3
  rw[cE 65536 (l:=dg 65536 v) (by omega),cM (by omega)]
 rw[h2]at h
 rcases Nat.eq_zero_or_pos br with h0 | h0
 ·rw[h0,Nat.mul_zero]at h
  omega
 have h5:65536^k*1≤65536^k*br:=Nat.mul_le_mul_left _ h0
 rw[hk,←hkk]at h1
 omega
theorem Xe {u v lo hi:Nat}(h1:lo*v≤u) (h2:u<hi*v) (h:hi=lo+1):u/v=lo:=by
 subst h
 have hv:0<v:=by
  rcases Nat.eq_zero_or_pos v with h0 | h0
  ·subst h0;simp at h2
  exact h0
 exact(Nat.div_eq_iff hv).2 (by rw[Nat.add_mul]at h2;omega)
theorem yI {a r:Nat}(ha:a<65536):trim ([a]++dg 65536 r)=dg 65536 (a+65536*r):=
 Jt (by omega) (Lim.cons ha (aR (by omega) r)) (by show a+65536*vl 65536 (dg 65536 r)=_;rw[cM (by omega)])
theorem CO {a r v:Nat}(ha:a<65536) (hr:r<v):(dg 65536 (a+65536*r)).length≤(dg 65536 v).length+1:=by
 rw[←yI ha]
 refine Nat.le_trans (dI _) ?_
 have:=dO (B:=65536) (by omega) (Nat.le_of_lt hr)
 simp only[cO,List.length_cons,List.length_nil]
 omega
theorem Lh {l:List Nat}{j v:Nat}(h:j<l.length):nth (l.set j v) j=v:=by simp[nth,h]
theorem Xg {u v r q:Nat}(h:u=v*q+r) (hr:r<v):q=u/v∧r=u%v:=by
 subst h
 rw[Nat.mul_add_div (by omega),Nat.div_eq_of_lt hr,Nat.mul_add_mod,Nat.mod_eq_of_lt hr]
 exact⟨rfl,rfl⟩
theorem NE {x y:Int}(hx:x.sign≠0) (h:x.sign≠y.sign) (hy:y≠0):(x<0∧0<y)∨(0<x∧y<0):=by
 rcases Int.lt_trichotomy x 0 with h1 | h1 | h1
 ·rcases Int.lt_trichotomy y 0 with h2 | h2 | h2
  ·rw[Int.sign_eq_neg_one_of_neg h1,Int.sign_eq_neg_one_of_neg h2]at h;exact absurd rfl h
  ·exact absurd h2 hy
  exact .inl ⟨h1,h2⟩
 ·rw[h1]at hx;exact absurd rfl hx
 rcases Int.lt_trichotomy y 0 with h2 | h2 | h2
 ·exact .inr ⟨h1,h2⟩
 ·exact absurd h2 hy
 rw[Int.sign_eq_one_of_pos h1,Int.sign_eq_one_of_pos h2]at h;exact absurd rfl h
theorem NF {x y:Int}(h:x.sign=0∨x.sign=y.sign) (hy:y≠0):x=0∨(x<0∧y<0)∨(0<x∧0<y):=by
 rcases Int.lt_trichotomy x 0 with h1 | h1 | h1
 ·rw[Int.sign_eq_neg_one_of_neg h1]at h
  rcases Int.lt_trichotomy y 0 with h2 | h2 | h2
  ·exact .inr (.inl ⟨h1,h2⟩)
  ·exact absurd h2 hy
  rw[Int.sign_eq_one_of_pos h2]at h;omega
 ·exact .inl h1
 rw[Int.sign_eq_one_of_pos h1]at h
 rcases Int.lt_trichotomy y 0 with h2 | h2 | h2
 ·rw[Int.sign_eq_neg_one_of_neg h2]at h;omega
 ·exact absurd h2 hy
 exact .inr (.inr ⟨h1,h2⟩)
theorem JF {a b:Int}(h0:b≠0):cD (aM a) (a.natAbs%b.natAbs)+b*cD (aM a != aM b) (a.natAbs/b.natAbs)=a∧(cD (aM a) (a.natAbs%b.natAbs)).natAbs<b.natAbs:=by
 have e:=Nat.div_add_mod a.natAbs b.natAbs
 have l:=Nat.mod_lt a.natAbs (show 0<b.natAbs by omega)
 refine⟨?_,by rw[jW];exact l⟩
 generalize a.natAbs/b.natAbs=q at*
 generalize a.natAbs%b.natAbs=r at*
 have e2:(b.natAbs:Int)*q+r=a.natAbs:=by exact_mod_cast e
 by_cases hb:b<0 <;> by_cases ha:a<0
 ·rw[show(b.natAbs:Int)=-b by omega,show(a.natAbs:Int)=-a by omega,Int.neg_mul]at e2
  simp[cD,aM,hb,ha];omega
 ·rw[show(b.natAbs:Int)=-b by omega,show(a.natAbs:Int)=a by omega,Int.neg_mul]at e2
  simp[cD,aM,hb,ha,Int.mul_neg];omega
 ·rw[show(b.natAbs:Int)=b by omega,show(a.natAbs:Int)=-a by omega]at e2
  simp[cD,aM,hb,ha,Int.mul_neg];omega
 rw[show(b.natAbs:Int)=b by omega,show(a.natAbs:Int)=a by omega]at e2
 simp[cD,aM,hb,ha];omega
theorem KK {a b r q:Int}(h0:b≠0) (hr:r=cD (aM a) (a.natAbs%b.natAbs)) (hq:q=cD (aM a != aM b) (a.natAbs/b.natAbs)) (h1:r.sign≠0) (h2:r.sign≠b.sign):q-1=a.fdiv b∧r+b=a.fmod b:=by
 obtain⟨h3,h4⟩:=JF (a:=a) h0
 rw[←hr]at h3 h4
 rw[←hq]at h3
 have h5:=NE h1 h2 h0
 have h6:=Jg (a:=a) (b:=b) (q:=q-1) (r:=r+b) h0 (by rw[Int.mul_sub,Int.mul_one];omega) (by omega) (by omega)
 exact⟨h6.1.symm,h6.2.symm⟩
theorem Qs {a b r q:Int}(h0:b≠0) (hr:r=cD (aM a) (a.natAbs%b.natAbs)) (hq:q=cD (aM a != aM b) (a.natAbs/b.natAbs)) (h:r.sign=0∨r.sign=b.sign):q=a.fdiv b∧r=a.fmod b:=by
 obtain⟨h3,h4⟩:=JF (a:=a) h0
 rw[←hr]at h3 h4
 rw[←hq]at h3
 have h5:=NF h h0
 have h6:=Jg (a:=a) (b:=b) (q:=q) (r:=r) h0 h3 (by omega) (by omega)
 exact⟨h6.1.symm,h6.2.symm⟩
theorem Pu {k:Int}(h:(dg 4294967296 k.natAbs).length=0):k.natAbs=0:=(gS (by omega)).1 (List.length_eq_zero_iff.1 h)
theorem Xi {k:Int}(h:(dg 4294967296 k.natAbs).length≠0):k≠0:=by
 intro h0
 subst h0
 exact h (by rw[show Int.natAbs 0=0 from rfl,oX];rfl)
def lD (l:List Nat) (k N:Nat):List Nat:=lb (l.take k)++List.replicate (N-(k+1)/2) 0
theorem CJ:lD l 0 N=List.replicate N 0:=by simp[lD,lb]
theorem KG (hN:N=(l.length+1)/2) (h:l.length≤k):lD l k N=lb l:=by
 unfold lD
 rw[fF h,show N-(k+1)/2=0 by omega]
 simp
theorem KE (hN:N=(l.length+1)/2) (hk:k≤l.length):(lD l k N).length=N:=by
 unfold lD
 rw[cO,List.length_replicate,jN,eA,Nat.min_eq_left hk]
 omega
theorem Bl:∀{l:List Nat}{j:Nat},2*j<l.length→lb (l.take (2*j+1))=lb (l.take (2*j))++[nth l (2*j)]
 | [],_,h=>by simp at h
 | [a],0,_=>by simp[lb,nth]
 | [a],j+1,h=>by simp at h
 | a::b::l,0,_=>by simp[lb,nth]
 | a::b::l,j+1,h=>by
  have ih:=Bl (l:=l) (j:=j) (by simp at h;omega)
  have e2:2*(j+1)=2*j+1+1:=by omega
  rw[e2,List.take_succ_cons,List.take_succ_cons,List.take_succ_cons,List.take_succ_cons]
  simp only[lb,List.cons_append]
  rw[ih]
  simp[nth]
theorem Tq {α:Type}(A R:List α) (x y:α){j:Nat}(h:A.length=j):(A++x::R).set j y=A++y::R:=by
 subst h
 rw[List.set_append_right _ _ (bC _),Nat.sub_self]
 rfl
theorem NG (A R:List Nat) (x:Nat){j:Nat}(h:A.length=j):nth (A++x::R) j=x:=by
 subst h
 simp[nth]
theorem CK (hN:N=(l.length+1)/2) (hk:k<l.length) (he:k%2=0):(lD l k N).set (k/2) (nth l k)=lD l (k+1) N:=by
 obtain⟨j,rfl⟩:∃j,k=2*j:=⟨k/2,by omega⟩
 have hA:(lb (l.take (2*j))).length=j:=by rw[jN,eA,Nat.min_eq_left (by omega)];omega
 unfold lD
 rw[show 2*j/2=j by omega,show N-(2*j+1)/2=(N-(2*j+1+1)/2)+1 by omega,List.replicate_succ,Tq _ _ _ _ hA,Bl hk,List.append_assoc]
 rfl
theorem Bo (hN:N=(l.length+1)/2) (hk:k<l.length) (ho:k%2=1):nth (lD l k N) (k/2)=nth l (k-1):=by
 obtain⟨j,rfl⟩:∃j,k=2*j+1:=⟨k/2,by omega⟩
 have hA:(lb (l.take (2*j))).length=j:=by rw[jN,eA,Nat.min_eq_left (by omega)];omega
 unfold lD
 rw[show(2*j+1)/2=j by omega,Bl (by omega),List.append_assoc]
 exact NG _ _ _ hA
theorem KF (hN:N=(l.length+1)/2) (hk:k<l.length) (ho:k%2=1):(lD l k N).set (k/2) (nth (lD l k N) (k/2)+65536*nth l k)=lD l (k+1) N:=by
 rw[Bo hN hk ho]
 obtain⟨j,rfl⟩:∃j,k=2*j+1:=⟨k/2,by omega⟩
 have hA:(lb (l.take (2*j))).length=j:=by rw[jN,eA,Nat.min_eq_left (by omega)];omega
 unfold lD
 rw[show(2*j+1)/2=j by omega,Bl (by omega),List.append_assoc,show 2*j+1+1=2*(j+1) by omega,Bk (by omega),List.append_assoc,show 2*j+1-1=2*j by omega]
 rw[show N-(2*(j+1))/2=N-(2*(j+1)+1)/2 by omega]
 exact Tq _ _ _ _ hA
theorem TF {l:List Nat}{j v:Nat}:j<l.length→vl 65536 (l.set j v)+65536^j*nth l j=vl 65536 l+65536^j*v:=by
 induction l generalizing j with
 | nil=>intro h;simp at h
 | cons x l ih=>
  intro h
  rcases j with _ | j
  ·simp[nth,gW];omega
  have:=ih (j:=j) (by simpa using h)
  simp only[List.set_cons_succ,gW]
  rw[Nat.pow_succ,show nth (x::l) (j+1)=nth l j by simp[nth],Nat.mul_comm (65536^j) 65536,Nat.mul_assoc,Nat.mul_assoc]
  omega
theorem qZ {os a b:List Nat}{i k cr x:Nat}(hj:i+k<os.length) (h:vl 65536 os+65536^(i+k)*cr=vl 65536 (a.take i)*vl 65536 b+65536^i*(nth a i*vl 65536 (b.take k))) (hx:x=nth os (i+k)+cr+nth a i*nth b k):
  vl 65536 (os.set (i+k) (x%65536))+65536^(i+(k+1))*(x/65536)=vl 65536 (a.take i)*vl 65536 b+65536^i*(nth a i*vl 65536 (b.take (k+1))):=by
 have h1:=TF (v:=x%65536) hj
 have h2:=Nat.mod_add_div x 65536
 have h3:65536^(i+k)*x=65536^(i+k)*(x%65536)+65536^(i+k)*(65536*(x/65536)):=by rw[←Nat.mul_add,h2]
 have h4:65536^(i+k)*x=65536^(i+k)*nth os (i+k)+65536^(i+k)*cr+65536^(i+k)*(nth a i*nth b k):=by rw[hx,Nat.mul_add,Nat.mul_add]
 rw[bY,Nat.mul_add,Nat.mul_add,show i+(k+1)=i+k+1 by omega,Nat.pow_succ,Nat.mul_assoc]
 have h5:65536^i*(nth a i*(65536^k*nth b k))=65536^(i+k)*(nth a i*nth b k):=by
  rw[Nat.pow_add,Nat.mul_left_comm (nth a i),Nat.mul_assoc]
 omega
theorem Dt {a b:List Nat}{i k:Nat}(hk:b.length≤k):vl 65536 (a.take i)*vl 65536 b+65536^i*(nth a i*vl 65536 (b.take k))=vl 65536 (a.take (i+1))*vl 65536 b:=by
 rw[cE 65536 hk,bY,Nat.add_mul,Nat.mul_assoc]
theorem Ld {os a b:List Nat}{i k cr:Nat}(ha:Lim 65536 a) (hb:Lim 65536 b) (hi:i<a.length) (hk:k≤b.length+1) (h:vl 65536 os+65536^(i+k)*cr=vl 65536 (a.take i)*vl 65536 b+65536^i*(nth a i*vl 65536 (b.take k))) (hc:0<cr):k≤b.length:=by
 rcases Nat.lt_or_ge b.length k with h1 | h1
 ·exfalso
  rw[Dt (by omega)]at h
  have h2:=fX (ha.take (i+1))
  have h3:=fX hb
  have h4:vl 65536 (a.take (i+1))*vl 65536 b<65536^(a.take (i+1)).length*65536^b.length:=Nat.mul_lt_mul'' h2 h3
  rw[←Nat.pow_add,eA,Nat.min_eq_left (by omega),show i+1+b.length=i+k by omega]at h4
  have h5:65536^(i+k)*1≤65536^(i+k)*cr:=Nat.mul_le_mul_left _ hc
  omega
 exact h1
end
theorem KB {k k':Int}(h:aM k=true) (h':aM k'=false):(-1:Int)=(k-k').sign:=by
 unfold aM at h h'
 simp at h h'
 rw[Int.sign_eq_neg_one_of_neg (by omega)]
theorem KC {k k':Int}(h:aM k=false) (h':aM k'=true):(1:Int)=(k-k').sign:=by
 unfold aM at h h'
 simp at h h'
 rw[Int.sign_eq_one_of_pos (by omega)]
theorem KA {k k':Int}(h:aM k=true) (h':aM k'=true):(((k'.natAbs:Nat):Int)-((k.natAbs:Nat):Int)).sign=(k-k').sign:=by
 unfold aM at h h'
 simp at h h'
 rw[show((k'.natAbs:Nat):Int)-((k.natAbs:Nat):Int)=k-k' by omega]
theorem KD {k k':Int}(h:aM k=false) (h':aM k'=false):(((k.natAbs:Nat):Int)-((k'.natAbs:Nat):Int)).sign=(k-k').sign:=by
 unfold aM at h h'
 simp at h h'
 rw[show((k.natAbs:Nat):Int)-((k'.natAbs:Nat):Int)=k-k' by omega]
theorem nT (v:Nat):(dg 4294967296 v).length≤(dg 65536 v).length:=by
 rw[←zZ,jN]
 omega
theorem Le (xs:List Nat){k:Nat}(h:k<xs.length):((fH xs).map AV.t)[0+k*1]? =some (tv (.int .i64 ((nth xs k:Nat):Int))):=by simp[fH,eR h,h,tv]
theorem OP (xs:List Nat){k:Nat}(h:k<xs.length):((aI xs).map AV.t)[0+k*1]? =some (tv (.int .u32 ((nth xs k:Nat):Int))):=by simp[aI,eR h,h,tv]
theorem uJ (xs:List Nat){k v:Nat}(h:k<xs.length):eJ ((fH xs).map AV.t) (0+k*1) [tv (.int .i64 (v:Int))]=(fH (xs.set k v)).map .t:=by
 rw[Nat.zero_add,Nat.mul_one,List.set_eq_take_append_cons_drop,if_pos h]
 simp[eJ,fH,tv,List.map_take,List.map_drop]
theorem zX (xs:List Nat){k v:Nat}(h:k<xs.length):eJ ((aI xs).map AV.t) (0+k*1) [tv (.int .u32 (v:Int))]=(aI (xs.set k v)).map .t:=by
 rw[Nat.zero_add,Nat.mul_one,List.set_eq_take_append_cons_drop,if_pos h]
 simp[eJ,aI,tv,List.map_take,List.map_drop]
theorem yG (xs:List Nat){k:Nat}{a:AV}(h:k<xs.length):0+k*1+[a].length≤((fH xs).map AV.t).length:=by simp[fH];omega
theorem Ds (xs:List Nat){k:Nat}{a:AV}(h:k<xs.length):0+k*1+[a].length≤((aI xs).map AV.t).length:=by simp[aI];omega
theorem Lc (m:Nat):(List.replicate m (Value.int .i64 0)).map tv=(fH (List.replicate m 0)).map .t:=by simp[fH,tv]
theorem CI (m:Nat):(List.replicate m (Value.int .u32 0)).map tv=(aI (List.replicate m 0)).map .t:=by simp[aI,tv]
structure Zi where
 s:Bool
 x:List Nat
def Zi.of (k:Int):Zi:=⟨aM k,dg 4294967296 k.natAbs⟩
def gF (a:Zi):FV:=.agg (([.v (.bool a.s),sU false a.x]:List Tr).map .t)
def kF (k:Int):FV:=.agg (([.v (.bool (aM k)),sU false (dg 4294967296 k.natAbs)]:List Tr).map .t)
def kO (k:Int):FV:=.agg (([.v (.bool (aM k)),sU true (dg 4294967296 k.natAbs)]:List Tr).map .t)
def Zn (a:Zi) (k:Int):Prop:=Lim 4294967296 a.x∧a.x.length≤137438953472∧fA a.s a.x=k
theorem Zn.of {k:Int}(h:(dg 4294967296 k.natAbs).length≤137438953472):Zn (.of k) k:=⟨aR (by omega) _,h,zJ k⟩
theorem zn0:Zn ⟨false,[]⟩ 0:=⟨Lim.nil,by simp,rfl⟩
theorem Zn.len {a:Zi}{k:Int}(h:Zn a k):(dg 4294967296 k.natAbs).length≤137438953472:=by
 obtain⟨h1,h2,rfl⟩:=h
 exact Nat.le_trans (Bh h1) h2
theorem Zn.right {a:Zi}{k:Int}(h:Zn a k) (hr:dU a.s a.x=true):aM k=a.s∧dg 4294967296 k.natAbs=a.x:=by
 obtain⟨h1,h2,rfl⟩:=h
 exact⟨Bg h1 hr,rR h1 hr⟩
theorem Zn.wrong {a:Zi}{k:Int}(h:Zn a k) (hr:dU a.s a.x=false):k=0:=by
 obtain⟨h1,h2,rfl⟩:=h
 exact Ff hr
theorem CG {a:Zi}{k:Int}(h:Zn a k) (hr:dU a.s a.x=true):gF a=kF k:=by
 obtain⟨h1,h2⟩:=h.right hr
 unfold gF kF
 rw[h1,h2]
theorem vZ {b:Bool}{m:Nat}{k:Int}(h:b=aM k) (hm:m=k.natAbs):FV.agg [tv (.bool b),.t (sU true (dg 4294967296 m))]=kO k:=by subst h hm;rfl
theorem Fp:FV.agg [tv (.bool false),.t (sU false [])]=kF 0:=by
 unfold kF
 rw[show Int.natAbs 0=0 from rfl,oX]
 rfl
theorem fQ (k:Int):kL (kO k):=by
 simp only[kL,kO,qH,List.map_cons,List.map_nil,lM,tR,sU,mY]
 exact⟨trivial,.inl ⟨trivial,fT _⟩,trivial⟩
theorem Fq (b:Bool) (m:Nat):kL (.agg (([.v (.bool b),sU true (dg 4294967296 m)]:List Tr).map .t)):=by
 simp only[kL,qH,List.map_cons,List.map_nil,lM,tR,sU,mY]
 exact⟨trivial,.inl ⟨trivial,fT _⟩,trivial⟩
def Qn (a:Fr4) (p:Rat):Prop:=a.ok∧a.q=p
section
variable {a:Fr4}{p q:Rat}{k k':Int}{L M:Nat}
theorem Mn (h:Qn a p):Zn ⟨a.s,a.x⟩ (fA a.s a.x):=⟨h.1.1,by have:=h.1.2.2.1;dsimp only;omega,rfl⟩
theorem yV (h:Qn a p):Zn ⟨a.t,a.y⟩ (fA a.t a.y):=⟨h.1.2.1,by have:=h.1.2.2.2;dsimp only;omega,rfl⟩
theorem oC (h:Sz L p) (hL:L≤137438953472:=by omega):Zn (.of p.num) p.num:=.of (Nat.le_trans h.1 hL)
theorem iD (h:Sz L p) (hL:L≤137438953472:=by omega):Zn ⟨false,dg 4294967296 p.den⟩ (p.den:Int):=⟨aR (by omega) _,Nat.le_trans h.2 hL,Bj p.den⟩
theorem Qn.sz (h:Qn a p):Sz 68719476736 p:=by
 obtain⟨⟨h1,h2,h3,h4⟩,rfl⟩:=h
 exact TA h1 h2 h3 h4 (by omega)
theorem Qn.of (h:Sz L p) (hL:L≤68719476736:=by omega):Qn (.of p) p:=⟨⟨aR (by omega) _,aR (by omega) _,Nat.le_trans h.1 hL,Nat.le_trans h.2 hL⟩,Fr4.q_of p⟩
theorem Qn.right (h:Qn a p) (hr:bV a.s a.x a.t a.y=true):Fr4.of p=a:=by
 obtain⟨⟨l1,l2,_,_⟩,rfl⟩:=h
 obtain⟨h1,h2,h3,h4⟩:=zL hr
 have e1:=Tn hr
 have e2:=To hr
 have e3:=Bg l1 h1
 have e4:=rR l1 h1
 have e5:=Bg l2 h2
 have e6:=rR l2 h2
 rw[←e1]at e3 e4
 rw[←e2]at e5 e6
 rw[Bi]at e5
 rw[Int.natAbs_natCast]at e6
 unfold Fr4.of Fr4.q
 rw[e3,e4,e5,e6]
theorem Qn.wrong (h:Qn a p) (hr:bV a.s a.x a.t a.y=false):p=0:=by
 obtain⟨_,rfl⟩:=h
 exact Jh hr
theorem Gg (hn:q.num=k) (hd:(q.den:Int)=k'):FV.agg [tv (.bool (aM k)),.t (sU false (dg 4294967296 k.natAbs)),tv (.bool (aM k')),.t (sU false (dg 4294967296 k'.natAbs))]=qF (.of q):=by
 subst hn hd
 have e:aM (q.den:Int)=false:=by unfold aM;exact decide_eq_false (by omega)
 rw[e]
 rfl
theorem DX (k k':Int):decide ((k-k').sign=0)=decide (k=k'):=by
 rw[decide_eq_decide,Int.sign_eq_zero_iff_zero]
 omega
theorem Gf (h0:k'≠0):(dg 4294967296 (((Int.gcd k k':Nat):Int)).natAbs).length≤(dg 4294967296 k'.natAbs).length:=by
 rw[Int.natAbs_natCast]
 exact jO (Nat.le_of_dvd (by omega) (Int.gcd_dvd_natAbs_right k k'))
theorem uT {n:Int}(h1:-9223372036854775808≤n) (h2:n≤9223372036854775807):(dg 4294967296 n.natAbs).length≤2:=dK (by omega) (by omega)
theorem Mo {a b:Int}(h0:b≠0):(0<b→(Rat.divInt a b).num=a.fdiv (Int.gcd a b)∧((Rat.divInt a b).den:Int)=b.fdiv (Int.gcd a b))∧(b<0→(Rat.divInt a b).num=(-a).fdiv (Int.gcd (-a) (-b))∧((Rat.divInt a b).den:Int)=(-b).fdiv (Int.gcd (-a) (-b))):=by
 refine⟨fun h=>pR h,fun h=>?_⟩
 rw[←Rat.neg_divInt_neg]
 exact pR (by omega)
theorem Ef {a b:Int}(h:b≠0):((Int.gcd a b:Nat):Int)≠0:=by
 have:=Int.gcd_pos_of_ne_zero_right a h
 omega
theorem Rr (n:Nat):decide ((n:Int)=1)=(n==1):=by
 by_cases h:n=1
 ·subst h;rfl
 rw[beq_eq_false_iff_ne.2 h,decide_eq_false (by omega)]
end
theorem Bm {α:Type}{f:α→List Tr}{z:Nat}(hf:∀x,(f x).length=z):∀{xs:List α}{k:Nat}{x:α},xs[k]? =some x→((xs.flatMap f).drop (k*z)).take z=f x
 | [],_,_,h=>by simp at h
 | y::xs,0,x,h=>by
  simp at h
  subst h
  rw[Nat.zero_mul,List.drop_zero,List.flatMap_cons,List.take_append_of_le_length (by rw[hf];exact bC _),fF (by rw[hf];exact bC _)]
 | y::xs,k+1,x,h=>by
  rw[List.getElem?_cons_succ]at h
  have e:(f y++xs.flatMap f).drop z=xs.flatMap f:=by rw[←hf y];simp
  rw[List.flatMap_cons,Nat.succ_mul,Nat.add_comm,←List.drop_drop,e]
  exact Bm hf h
theorem bE {α:Type}{f:α→List Tr}{z:Nat}(hf:∀x,(f x).length=z):∀(xs:List α),(xs.flatMap f).length=xs.length*z
 | []=>by simp
 | y::xs=>by rw[List.flatMap_cons,cO,hf,bE hf xs,List.length_cons,Nat.succ_mul,Nat.add_comm]
theorem Pa {α:Type}{f:α→List Tr}{z o m:Nat}(hf:∀x,(f x).length=z){xs:List α}{k:Nat}{x:α}(h:xs[k]? =some x) (hm:o+m≤z):((xs.flatMap f).drop (k*z+o)).take m=((f x).drop o).take m:=by
 have e:=Bm hf h
 rw[←List.drop_drop,←e,List.drop_take,List.take_take,Nat.min_eq_left (by omega)]
section
variable {α:Type}{f:α→List Tr}{z:Nat}{xs:List α}{k o:Nat}{x x' y:α}{us:List Tr}
theorem bH (hf:∀x,(f x).length=z) (h:xs[k]? =some x) (hm:o+us.length≤z) (hu:((f x).drop o).take us.length=us):((xs.flatMap f).drop (k*z+o)).take us.length=us:=by
 rw[Pa hf h hm]
 exact hu
theorem cJ (hf:∀x,(f x).length=z) (h:xs[k]? =some x) (hm:o+us.length≤z) (hu:((f x).drop o).take us.length=us):(((xs.flatMap f).map AV.t).drop (0+k*z+o)).take (us.map AV.t).length=us.map .t:=by
 rw[←List.map_drop,←List.map_take,Nat.zero_add,dF,bH hf h hm hu]
end
def kZ:List Rat→Rat | []=>0 | a::l=>aJ a l
def CQ:Fr4:=⟨false,[],false,[]⟩
def cZ (xs:List Fr4) (k:Nat):Fr4:=xs.getD k CQ
theorem wF {xs:List Fr4}{k:Nat}(h:k<xs.length):xs[k]? =some (cZ xs k):=by simp[cZ,h]
theorem fK {xs:List Fr4}{k:Nat}(h:k<xs.length):cZ xs k∈xs:=List.mem_of_getElem? (wF h)
def sQ (o:Bool) (xs:List Fr4):Tr:=.s o 52 4 xs.length (xs.flatMap (Fr4.tr o))
theorem iE (xs:List Fr4){k:Nat}(h:k<xs.length):((xs.flatMap (Fr4.tr false)).drop (k*4)).take ((cZ xs k).tr false).length=(cZ xs k).tr false:=Bm (f:=Fr4.tr false) (fun _=>rfl) (wF h)
section
variable {xs:List Fr4}{k:Nat}
theorem uN (h:k<xs.length):(xs.take (k+1)).map Fr4.q=(xs.take k).map Fr4.q++[(cZ xs k).q]:=by rw[List.take_add_one,wF h];simp
theorem In (h:0<xs.length):kZ ((xs.take 1).map Fr4.q)=(cZ xs 0).q:=by
 rw[uN h]
 simp[kZ,aJ]
theorem Ei (h1:1≤k) (h:k<xs.length):kZ ((xs.take (k+1)).map Fr4.q)=if(cZ xs k).q<kZ ((xs.take k).map Fr4.q)then(cZ xs k).q else kZ ((xs.take k).map Fr4.q):=by
 rw[uN h]
 rcases e:(xs.take k).map Fr4.q with _ | ⟨a,l⟩
 ·have:=congrArg List.length e
  simp at this
  rcases this with h2 | h2
  ·omega
  subst h2;simp at h
 show List.foldl _ a (l++[_])=_
 rw[List.foldl_append]
 rfl
theorem Yv (p q:Rat):(p-q).num.sign<0↔p<q:=by simpa using Rk q p
end
def cT (o:Bool) (x:Int×Rat):List Tr:=.v (.int .i64 x.1)::(Fr4.of x.2).tr o
def aH (vs:List (Int×Rat)) (k:Nat):Int×Rat:=vs.getD k (0,0)
section
variable {vs:List (Int×Rat)}{k:Nat}
theorem xM (h:k<vs.length):vs[k]? =some (aH vs k):=by simp[aH,h]
theorem mQ (h:k<vs.length):aH vs k∈vs:=List.mem_of_getElem? (xM h)
theorem lG (h:k<vs.length):vs.take (k+1)=vs.take k++[aH vs k]:=by rw[List.take_add_one,xM h];rfl
theorem uP (o:Bool) (h:k<vs.length):((vs.flatMap (cT o)).drop (k*5)).take (cT o (aH vs k)).length=cT o (aH vs k):=Bm (f:=cT o) (fun _=>rfl) (xM h)
theorem WV (o:Bool) (h:k<vs.length):((vs.flatMap (cT o)).drop (k*5+1)).take ((Fr4.of (aH vs k).2).tr o).length=(Fr4.of (aH vs k).2).tr o:=Pa (f:=cT o) (o:=1) (m:=4) (fun _=>rfl) (xM h) (by omega)
def sV (t:Nat) (o:Bool) (vs:List (Int×Rat)):Tr:=.s o t 5 vs.length (vs.flatMap (cT o))
theorem bM (o:Bool) (vs:List (Int×Rat)):(vs.flatMap (cT o)).length=vs.length*5:=bE (f:=cT o) (z:=5) (fun _=>rfl) vs
end
def mR (l:List Rat):Rat:=l.foldl (· + ·) 0
theorem AZ (l:List Rat) (q:Rat):mR (l++[q])=mR l+q:=by simp[mR]
theorem XN (vs:List (Int×Rat)):gQ ((vs.flatMap (cT false)).map .t)=true:=by
 induction vs with
 | nil=>rfl
 | cons x vs ih=>simpa[cT,Fr4.tr,sU,gQ,qG]using ih
theorem PQ (vs:List (Int×Rat)):fE ((vs.flatMap (cT false)).map .t)=true:=by
 induction vs with
 | nil=>rfl
 | cons x vs ih=>simpa[cT,Fr4.tr,sU,fE,lone]using ih
def eS (right:Bool) (q:Rat) (y last:Int) (pt:Bool):Int:=
 if !right then 2 else if decide (q.num.sign<0)then 2 else if pt&&decide (y≤last)then 4 else 0
def kT (e:Int) (q:Rat) (y:Int) (l:List (Int×Rat)):List (Int×Rat):=if e=0 then(if decide (0<q.num.sign)then l++[(y,q)]else l)else l
def yS (e:Int) (y last:Int):Int:=if e=0 then y else last
def yT (e:Int) (pt:Bool):Bool:=if e=0 then true else pt
def nX (_:Int) (q:Rat):Bool:=decide (q.num.sign=0)
theorem pH {N:Nat}{p:Rat}{l:List Rat}(hp:Sz N p) (h:∀q∈l,Sz N q):Sz N (aJ p l):=by
 rcases GI p l with h1 | h1
 ·rw[h1];exact hp
 exact h _ h1
def vD (q:Rat):Nat:=max (dg 4294967296 q.num.natAbs).length (dg 4294967296 q.den).length
theorem mH {L:Nat}{q:Rat}:Sz L q↔vD q≤L:=by
 unfold Sz vD
 omega
def wt (q:Rat):Nat:=vD q+1
def gP (l:List Rat):Nat:=(l.map wt).sum
theorem Gq {l:List Rat}{q:Rat}(h:q∈l):wt q≤gP l:=by
 unfold gP
 induction l with
 | nil=>cases h
 | cons x l ih=>
  rw[List.map_cons,List.sum_cons]
  rcases List.mem_cons.1 h with rfl | h
  ·omega
  have:=ih h;omega
theorem rE (a b:List Rat):gP (a++b)=gP a+gP b:=by simp[gP]
theorem Sg {a b:List Rat}(h:List.Sublist a b):gP a≤gP b:=by
 induction h with
 | slnil=>omega
 | cons x h ih=>simp only[gP,List.map_cons,List.sum_cons]at ih⊢;omega
 | cons_cons x h ih=>simp only[gP,List.map_cons,List.sum_cons]at ih⊢;omega
theorem Ts:wt 0≤2:=by
 have h:=yP (z:=0) (by omega) (by omega)
 have h1:vD (0:Rat)=1:=by
  unfold vD
  rw[show(0:Rat).num=0 from rfl,show(0:Rat).den=1 from rfl]
  have e1:(dg 4294967296 (Int.natAbs 0)).length=0:=by rw[show Int.natAbs 0=0 from rfl,Hq];rfl
  have e2:(dg 4294967296 1).length=1:=by
   rw[yA (by omega) (by omega)]
   rw[show 1/4294967296=0 by omega,Hq]
   rfl
  rw[e1,e2]
  rfl
 unfold wt
 omega
theorem BA (p q:Rat):wt (p-q)≤wt p+wt q:=by
 have h:=jZ (mH.2 (bC (vD p))) (mH.2 (bC (vD q)))
 have:=mH.1 h
 unfold wt
 omega
theorem GL (v m:Rat):aJ v [m]=if m<v then m else v:=rfl
theorem BC (v m:Rat):wt (v-aJ v [m])+wt (m-aJ v [m])≤wt v+wt m+2:=by
 rw[GL]
 split
 ·rw[show m-m=0 by grind]
  have:=Ts
  have:=BA v m
  omega
 rw[show v-v=0 by grind]
 have:=Ts
 have:=BA m v
 omega
def kB (fr:Int) (s:List (Int×Rat)×List (Int×Rat)×Rat) (x:Int×Rat):List (Int×Rat)×List (Int×Rat)×Rat:=
 if decide (fr≤x.1)&&decide (0<s.2.2.num.sign)then(s.1++[(x.1,x.2-aJ x.2 [s.2.2])],s.2.1++[(x.1,aJ x.2 [s.2.2])],s.2.2-aJ x.2 [s.2.2])else(s.1++[x],s.2.1,s.2.2)
def aS (fr:Int) (l:List (Int×Rat)) (p:Rat):List (Int×Rat)×List (Int×Rat)×Rat:=l.foldl (kB fr) ([],[],p)
theorem pL {fr:Int}{s:List (Int×Rat)×List (Int×Rat)×Rat}{y:Int}{q:Rat}(h1:fr≤y) (h2:0<s.2.2.num.sign):
  kB fr s (y,q)=(s.1++[(y,q-aJ q [s.2.2])],s.2.1++[(y,aJ q [s.2.2])],s.2.2-aJ q [s.2.2]):=by
 unfold kB
 rw[if_pos (by simp only[Bool.and_eq_true,decide_eq_true_eq];exact⟨h1,h2⟩)]
theorem nK {fr:Int}{s:List (Int×Rat)×List (Int×Rat)×Rat}{x:Int×Rat}(h:¬(fr≤x.1∧0<s.2.2.num.sign)):kB fr s x=(s.1++[x],s.2.1,s.2.2):=by
 unfold kB
 rw[if_neg (by simp only[Bool.and_eq_true,decide_eq_true_eq];exact h)]
theorem wV (fr:Int) (l:List (Int×Rat)) (p:Rat):(aS fr l p).1.length=l.length:=by
 have key:∀(l:List (Int×Rat)) s,(l.foldl (kB fr) s).1.length=s.1.length+l.length:=by
  intro l
  induction l with
  | nil=>intro s;simp
  | cons x l ih=>
   intro s
   rw[List.foldl_cons,ih]
   unfold kB
   split <;> simp <;> omega
 have:=key l ([],[],p)
 simpa[aS]using this
theorem kA (q:Rat):0<q.num.sign↔0<q:=by
 rw[Int.sign_pos_iff,←gt_iff_lt,Rat.lt_iff]
 simp
theorem Si (v m:Rat):wt (m-aJ v [m])≤wt v+wt m+2:=by have:=BC v m;omega
section
variable {f:FuncId}{args:List FV}
theorem tV {xs:List Nat}(h:∀(N:Nat→Prop) (w:World) us,dR w N [] args us→(∀b,N b→b<w.heap.size)→Calls Tryz.prog f us.toArray w (oO xs w)):aG true Tryz.prog f [] args (aU (.one (.t (sU true xs)))):=by
 intro N w cs us hL
 obtain⟨rfl,hf⟩:=zN hL
 refine(h _ w us hf (fun b hb=>hb.1)).mono ?_
 rintro e W ⟨A,n,c,rfl,ho,hb⟩
 obtain⟨y1,a1,a2,a3,a4⟩:=zM (N:=fun b=>true=false∧(b<W.heap.size∧b∉VT.fpL [])∧(N b∨w.heap.size≤b)) ho
 refine .mk0 (y:=[y1]) rfl hb (by simp only[VT.okL];exact⟨a3,trivial⟩) ?_ (fun b hb'=>?_) ?_
 ·simp only[VT.fpL,a4,List.append_nil]
  cases A <;> simp[Value.ownBlock]
 ·simp only[VT.fpL,a4,List.append_nil]at hb'
  exact ho.blk b hb'
 exact⟨y1,rfl,a1.symm,kQ (fun _ _=>rfl) (fun b hb=>absurd hb.1 (by simp)) _ _ a2⟩
variable {xs ys:List Nat}
theorem lO {W:World}{N:Nat→Prop}{v:Value}(h:bZ W N [] (.one (.t (sU false xs))) v) (hl:Lim 4294967296 xs) (hN:∀b,N b→b<W.heap.size):∃A c,v=.slice A xs.length c∧U32 W W.heap.size A xs.length c xs:=by
 simp only[bZ,AR]at h
 obtain⟨A,c,rfl,l⟩:=Ht h hl
 exact⟨A,c,rfl,l.u32 hN⟩
theorem Tt (hx:Lim 4294967296 xs) (h:xs.length≤1099511627776):aG true Tryz.prog 118 [] [.one (.t (sU false xs))] (aU (.one (.t (sU true xs)))):=tV fun N w us hf hN=>by
 obtain⟨u,rfl,h1⟩:=GK hf
 obtain⟨A,c,rfl,u1⟩:=lO h1 hx hN
 exact rP A _ c xs w u1 h
theorem WW (hx:Lim 4294967296 xs) (hy:Lim 4294967296 ys):aG true Tryz.prog 140 [] [.one (.t (sU false xs)),.one (.t (sU false ys))] (aU (.one (tv (.int .i64 (oP (vl 4294967296 xs) (vl 4294967296 ys)))))):=GJ fun N w us hf hN=>by
 obtain⟨u,v,rfl,h1,h2⟩:=Ov hf
 obtain⟨A,c,rfl,u1⟩:=lO h1 hx hN
 obtain⟨B,d,rfl,u2⟩:=lO h2 hy hN
 exact(sS A B _ _ c d xs ys _ w u1 u2).mono fun e W ⟨he,k,hk⟩=>⟨he,hk▸iA (Below.refl _ _) k⟩
theorem JG (hx:Lim 4294967296 xs) (hy:Lim 4294967296 ys) (h:xs.length≤1099511627776) (h':ys.length≤1099511627776):aG true Tryz.prog 139 [] [.one (.t (sU false xs)),.one (.t (sU false ys))] (aU (.one (.t (sU true (dg 4294967296 (vl 4294967296 xs+vl 4294967296 ys)))))):=tV fun N w us hf hN=>by
 obtain⟨u,v,rfl,h1,h2⟩:=Ov hf
 obtain⟨A,c,rfl,u1⟩:=lO h1 hx hN
 obtain⟨B,d,rfl,u2⟩:=lO h2 hy hN
 exact GA A B _ _ c d xs ys w u1 u2 h h'
theorem WX (hx:Lim 4294967296 xs) (hy:Lim 4294967296 ys) (h:xs.length≤549755813888) (h':ys.length≤549755813888):aG true Tryz.prog 84 [] [.one (.t (sU false xs)),.one (.t (sU false ys))] (aU (.one (.t (sU true (dg 4294967296 (vl 4294967296 xs*vl 4294967296 ys)))))):=tV fun N w us hf hN=>by
 obtain⟨u,v,rfl,h1,h2⟩:=Ov hf
 obtain⟨A,c,rfl,u1⟩:=lO h1 hx hN
 obtain⟨B,d,rfl,u2⟩:=lO h2 hy hN
 exact MR A B _ _ c d xs ys w u1 u2 h h'
theorem GM {W:World}{N:Nat→Prop}{t:Nat}{v:Value}(h:bZ W N [] (.one (.t (.s false t 1 2 [sU false xs,sU false ys]))) v) (hx:Lim 4294967296 xs) (hy:Lim 4294967296 ys) (hN:∀b,N b→b<W.heap.size):∃A c,v=.slice A 2 c∧URows W W.heap.size A 2 c [xs,ys]:=by
 simp only[bZ,AR,FR]at h
 obtain⟨A,c,rfl,h1,h2,_,h4⟩:=h
 rcases h4 with h4 | ⟨ad,rfl,h5,h6⟩
 ·omega
 obtain⟨u0,e0,f0⟩:=oZ h6 (j:=0) rfl
 obtain⟨u1,e1,f1⟩:=oZ h6 (j:=1) rfl
 obtain⟨A0,c0,rfl,l0⟩:=Ht f0 hx
 obtain⟨A1,c1,rfl,l1⟩:=Ht f1 hy
 rw[Nat.zero_add]at e0 e1
 refine⟨_,c,rfl,rfl,h1,h2,fun k hk=>?_⟩
 obtain⟨b,o,sp⟩:=ad
 match k,hk with
 | 0,_=>exact⟨b,o,sp,A0,_,c0,rfl,hN _ h5,e0,l0.u32 hN⟩
 | 1,_=>exact⟨b,o,sp,A1,_,c1,rfl,hN _ h5,e1,l1.u32 hN⟩
theorem WY {t:Nat}(hx:Lim 4294967296 xs) (hy:Lim 4294967296 ys) (h:xs.length≤549755813888) (h':ys.length≤549755813888):aG true Tryz.prog 123 [] [.one (.t (.s false t 1 2 [sU false xs,sU false ys]))] (aU (.one (.t (sU true (dg 4294967296 (sT [xs,ys])))))):=tV fun N w us hf hN=>by
 obtain⟨u,rfl,h1⟩:=GK hf
 obtain⟨A,c,rfl,u1⟩:=GM h1 hx hy hN
 exact MY A 2 c [xs,ys] w u1 (by omega) (fun k hk=>by match k,hk with | 0,_=>exact h | 1,_=>exact h')
theorem Fg (A:Option Addr) (n c:Nat):((Value.slice A n c).ownBlock.toList).Nodup:=by cases A <;> simp[Value.ownBlock]
theorem Wi (hx:Lim 4294967296 xs) (hy:Lim 4294967296 ys) (h:xs.length≤1099511627776) (hle:vl 4294967296 ys≤vl 4294967296 xs):aG true Tryz.prog 141 [] [.one (.t (sU false xs)),.one (.t (sU false ys))] (aU (.tup [.one (.t (sU true (dg 4294967296 (vl 4294967296 xs-vl 4294967296 ys)))),.one (tv (.int .i64 0))])):=by
 intro N w cs us hL
 obtain⟨rfl,hf⟩:=zN hL
 obtain⟨u,v,rfl,h1,h2⟩:=Ov hf
 obtain⟨A,c,rfl,u1⟩:=lO h1 hx fun b hb=>hb.1
 obtain⟨B,d,rfl,u2⟩:=lO h2 hy fun b hb=>hb.1
 refine(GB A B _ _ c d xs ys w u1 u2 h hle).mono ?_
 rintro e W ⟨A,n,c,rfl,ho,hb⟩
 obtain⟨y1,a1,a2,a3,a4⟩:=zM (N:=fun b=>true=false∧(b<W.heap.size∧b∉VT.fpL [])∧(N b∨w.heap.size≤b)) ho
 refine .mk0 (y:=[y1,.w (.int .i64 0)]) rfl hb (by simp only[VT.okL,VT.ok];exact⟨a3,trivial,trivial⟩) ?_ (fun b hb'=>?_) ?_
 ·simp only[VT.fpL,VT.fp,a4,List.append_nil]
  exact Fg A n c
 ·simp only[VT.fpL,VT.fp,a4,List.append_nil]at hb'
  exact ho.blk b hb'
 refine⟨[_,_],rfl,?_⟩
 exact⟨_,_,[y1],[.w (.int .i64 0)],rfl,rfl,⟨y1,rfl,a1.symm,kQ (fun _ _=>rfl) (fun b hb=>absurd hb.1 (by simp)) _ _ a2⟩,_,_,[.w (.int .i64 0)],[],rfl,rfl,⟨_,rfl,rfl,by simp[CR,tv,OR]⟩,rfl,rfl⟩
theorem GN (hx:Lim 4294967296 xs) (hy:Lim 4294967296 ys) (h:xs.length≤549755813888) (h':ys.length≤549755813888) (h0:vl 4294967296 ys≠0):aG true Tryz.prog 142 [] [.one (.t (sU false xs)),.one (.t (sU false ys))] (aU (.tup [.one (.t (sU true (dg 4294967296 (vl 4294967296 xs/vl 4294967296 ys)))),.one (.t (sU true (dg 4294967296 (vl 4294967296 xs%vl 4294967296 ys)))),.one (tv (.int .i64 0))])):=by
 intro N w cs us hL
 obtain⟨rfl,hf⟩:=zN hL
 obtain⟨u,v,rfl,h1,h2⟩:=Ov hf
 obtain⟨A,c,rfl,u1⟩:=lO h1 hx fun b hb=>hb.1
 obtain⟨B,d,rfl,u2⟩:=lO h2 hy fun b hb=>hb.1
 refine(Fd A B _ _ c d xs ys w u1 u2 h h' h0).mono ?_
 rintro e W ⟨A1,n1,c1,A2,n2,c2,rfl,ho,ho2,hap,hb⟩
 obtain⟨y1,a1,a2,a3,a4⟩:=zM (N:=fun b=>true=false∧(b<W.heap.size∧b∉VT.fpL [])∧(N b∨w.heap.size≤b)) ho
 obtain⟨y2,b1,b2,b3,b4⟩:=zM (N:=fun b=>true=false∧(b<W.heap.size∧b∉VT.fpL [])∧(N b∨w.heap.size≤b)) ho2
 refine .mk0 (y:=[y1,y2,.w (.int .i64 0)]) rfl hb (by simp only[VT.okL,VT.ok];exact⟨a3,b3,trivial,trivial⟩) ?_ (fun b hb'=>?_) ?_
 ·simp only[VT.fpL,VT.fp,a4,b4,List.append_nil]
  rw[List.nodup_append]
  refine⟨Fg ..,Fg ..,fun x hx y hy e=>?_⟩
  subst e
  rcases A1 with _ | a
  ·simp[Value.ownBlock]at hx
  rcases A2 with _ | b
  ·simp[Value.ownBlock]at hy
  simp[Value.ownBlock]at hx hy
  exact hap a b rfl rfl (by rw[←hx,←hy])
 ·simp only[VT.fpL,VT.fp,a4,b4,List.append_nil]at hb'
  rcases List.mem_append.1 hb' with hb' | hb'
  ·exact ho.blk b hb'
  exact ho2.blk b hb'
 refine⟨[_,_,_],rfl,?_⟩
 exact⟨_,_,[y1],[y2,.w (.int .i64 0)],rfl,rfl,⟨y1,rfl,a1.symm,kQ (fun _ _=>rfl) (fun b hb=>absurd hb.1 (by simp)) _ _ a2⟩,_,_,[y2],[.w (.int .i64 0)],rfl,rfl,⟨y2,rfl,b1.symm,kQ (fun _ _=>rfl) (fun b hb=>absurd hb.1 (by simp)) _ _ b2⟩,_,_,[.w (.int .i64 0)],[],rfl,rfl,⟨_,rfl,rfl,by simp[CR,tv,OR]⟩,rfl,rfl⟩
end
def GO (P:Program) (t n:Nat):Prop:=∃e,P.underlying t=some (.array n e)∧Ty1 P e
section
variable {P:Program}{w:World}{ρ:Operand→Value}{d:Option Nat}{ty:TypeId}{pos:String}{af:Array Edge}{gd:Option (Nat×Bool)}
theorem BD {t n:Nat}{z us:List Value}{parts:Array (Nat×Operand)}{ps:List (Nat×Value)}(hT:GO P t n) (hZ:TyZ P t z) (hps:(parts.map fun x=>(x.1,ρ x.2))=ps.toArray) (hf:jL (fun i=>some (i*1,1)) z ps=some us):
  (execOp ρ ⟨d,.build t parts,ty,pos,af,gd⟩).run P w=.ok (.value (.agg us.toArray)) w:=by
 obtain⟨e,e1,hu⟩:=hT
 obtain⟨dd,i',h8,h9,h10,h11⟩:=hu
 obtain⟨i,v,h3,h4,h5⟩:=hZ
 have hf':=zS _ ps z us hf
 simp only[Nat.mul_one]at hf'
 have hps':(parts.map fun(x:Nat×Operand)=>match x with | (i,x)=>(i,ρ x))=ps.toArray:=hps
 simp[execOp,Instr.build,zeroValue,sizeOf,typeInfo,h3,h4,run_underlying e1,hps',h5,h10,h11,hf']
end
def xN:List AV→List (Nat×FV)→Option (List AV)
 | l,[]=>some l
 | l,(i,.one a)::r=>match lone a&&Nat.blt i l.length with
  | true=>xN (l.set i a) r
  | false=>none
 | _,_=>none
section
variable {W:World}{N:Nat→Prop}{cs:List Co}
theorem Tu {a:AV}{u:Value}(ha:AR W N cs a u):∀{l:List AV}{us:List Value}{p:Nat},ARL W N cs l us→ARL W N cs (l.set p a) (us.set p u)
 | [],us,p,h=>by
  simp only[ARL]at h
  subst h
  simp[ARL]
 | b::l,[],p,h=>by simp only[ARL]at h
 | b::l,z::us,0,h=>by
  simp only[ARL]at h
  simp only[List.set_cons_zero,ARL]
  exact⟨ha,h.2⟩
 | b::l,z::us,p+1,h=>by
  simp only[ARL]at h
  simp only[List.set_cons_succ,ARL]
  exact⟨h.1,Tu ha h.2⟩
theorem Tv:∀{ps:List (Nat×FV)}{vs:List (Nat×Value)}{l l':List AV}{us:List Value},ARL W N cs l us→xN l ps=some l'→ps.length=vs.length→
  (∀(j:Nat) (p:Nat×FV) (q:Nat×Value),ps[j]? =some p→vs[j]? =some q→p.1=q.1∧bO W N cs p.2 q.2)→∃us',ARL W N cs l' us'∧jL (fun i=>some (i*1,1)) us vs=some us'
 | [],vs,l,l',us,hc,h,hl,_=>by
  obtain rfl:vs=[]:=List.eq_nil_of_length_eq_zero hl.symm
  simp only[xN,Option.some.injEq]at h
  subst h
  exact⟨us,hc,rfl⟩
 | (i,fv)::ps,vs,l,l',us,hc,h,hl,hp=>by
  obtain⟨⟨i',u⟩,vs,rfl⟩:∃q vs',vs=q::vs':=by
   cases vs with
   | nil=>simp at hl
   | cons q vs=>exact⟨q,vs,rfl⟩
  obtain⟨e0,h0⟩:=hp 0 _ _ rfl rfl
  dsimp only at e0 h0
  subst e0
  cases fv with
  | one a=>
   unfold xN at h
   cases hq:lone a&&Nat.blt i l.length with
   | false=>rw[hq]at h;cases h
   | true=>
    rw[hq]at h
    simp only[Bool.and_eq_true]at hq
    have hi:i<us.length:=by
     have h9:=hq.2
     rw[iG hc]
     simpa[Nat.blt,Nat.lt_iff_add_one_le]using h9
    have hu:u.cells.toList=[u]:=by rw[xA (cs:=cs) h0 hq.1]
    obtain⟨us',r1,r2⟩:=Tv (us:=us.set i u) (Tu h0 hc) h (by simpa using hl) (fun j p q h1 h2=>hp (j+1) p q (by simpa using h1) (by simpa using h2))
    refine⟨us',r1,?_⟩
    unfold jL
    dsimp only
    have e2:pU us (i*1) u.cells.toList=us.set i u:=by
     rw[hu,Nat.mul_one]
     unfold pU
     rw[List.set_eq_take_append_cons_drop,if_pos hi]
     simp
    have e3:(Nat.beq u.cells.toList.length 1&&Nat.ble (i*1+u.cells.toList.length) us.length)=true:=by
     rw[hu]
     simp
     omega
    rw[e2,e3]
    exact r2
  | any=>simp[xN]at h
  | agg _=>simp[xN]at h
  | tup _=>simp[xN]at h
end
section
variable {x:Cx}{g g':Nat→FV}{ob ob':List (Option Ob)}{cs cs':List Co}{ts ts':Array Value}{W W':World}{T:List (Nat×TI)}{Q:Post}{ops:Array Oper}{rest:List Oper}{d:Nat}{op:Op}{ty:TypeId}{pos:String}{af:Array Edge}{gd:Option (Nat×Bool)}{v:FV}
theorem WZ {t n:Nat}{ti:Bool}{sz:Nat}{z:List Value}{kd:TK}{ps:Array (Nat×Operand)}{l:List AV}(hT:cL x.P T) (ht:cI T t=some ⟨ti,sz,z,kd⟩) (hA:GO x.P t n) (h:xN (z.map tv) (ps.toList.map fun p=>(p.1,lk x.n g p.2))=some l):
  OS x ⟨some d,.build t ps,ty,pos,af,gd⟩ g ob [] (fun g' ob'=>g'=bF g d (.agg l)∧ob'=ob):=Zq fun cs ts W hR=>by
 have hi:=eT hT ht
 obtain⟨us',h1,h2⟩:=Tv (W:=W) (N:=x.fr W ob cs) (cs:=cs) (us:=z) (vs:=ps.toList.map fun p=>(p.1,Act.eval ⟨ts,[]⟩ p.2)) (qD z) h (by simp) (fun j p q hp hq=>by
  simp only[List.getElem?_map,Option.map_eq_some_iff]at hp hq
  obtain⟨a,ha,rfl⟩:=hp
  obtain⟨b,hb,rfl⟩:=hq
  rw[ha]at hb
  injection hb with hb
  subst hb
  exact⟨rfl,hR.lk _⟩)
 exact⟨.agg us'.toArray,fun W'=>BD hA hi.2.2.1 (ps:=ps.toList.map fun p=>(p.1,Act.eval ⟨ts,[]⟩ p.2)) (by apply Array.ext';simp only[Array.toList_map]) h2,us',rfl,h1⟩
theorem bA {t n:Nat}{ti:Bool}{sz:Nat}{z:List Value}{kd:TK}{ps:Array (Nat×Operand)}{l:List AV}(hA:GO x.P t n) (k:WL x ops rest (bF g d (.agg l)) ob Q) (hT:cL x.P ttab:=by exact aB) (ht:cI ttab t=some ⟨ti,sz,z,kd⟩:=by rfl) (h:xN (z.map tv) (ps.toList.map fun p=>(p.1,lk x.n g p.2))=some l:=by rfl) (hw:bI ops x.n g gd=some true:=by rfl):
  WL x ops (⟨some d,.build t ps,ty,pos,af,gd⟩::rest) g ob Q:=jE (WZ hT ht hA h) hw (by rintro _ _ ⟨rfl,rfl⟩;exact k)
inductive PutL (K:List Nat):List AV→List AV→Prop
 | nil:PutL K [] []
 | sl {i k o n:Nat}{l l':List AV}(h:K[i]? =some k) (h':PutL K l l'):PutL K (.sl i o n::l) (.sl k o n::l')
variable {late:Nat→Bool}{K fr:List Nat}{on:Bool}{fuel:Nat}{listed:Array Bool}
theorem mA {t ky o t' z':Nat}{ti:TI}{a:Operand}{l us:List AV}(i:Nat) (hx:(l.drop o).take us.length=us) (k:WD x ops Q late K (d::fr) true fuel (listed.setIfInBounds i true) (bF g d (.agg us)) ob) (hT:cL x.P ttab:=by exact aB) (hi:ops[i]? =some ⟨some d,.load t a,ty,pos,af,gd⟩:=by rfl) (hw:bI ops x.n g gd=some true:=by rfl) (hti:cI ttab t=some ti:=by rfl) (hlk:lk x.n g a=.one (.pt ky o):=by rfl) (ho:bX ob ky=some ⟨t',z',l⟩:=by rfl) (ha:ti.agg=true:=by rfl) (hn:us.length=ti.size:=by rfl) (h0:us≠[]:=by exact fun h=>by cases h) (hr:gQ us=true:=by rfl):WO x ops Q late K fr true fuel listed i g ob:=
 Ga (v:=.agg us) i hi rfl hw (Vk hT hti (by rw[hlk];exact Oe ho hx ha hn h0 hr)) (by rintro _ _ ⟨rfl,rfl⟩;exact⟨rfl,fun _ _=>rfl⟩) (by rintro _ _ ⟨rfl,rfl⟩;exact k)
theorem tH {t key o t' z':Nat}{ti:TI}{a b:Operand}{l l' us:List AV}(i:Nat) (hl:eJ l o us=l') (hle:o+us.length≤l.length) (k:WD x ops Q late K fr true fuel (listed.setIfInBounds i true) g (ob.set key (some ⟨t',z',l'⟩))) (hT:cL x.P ttab:=by exact aB) (hr:Region.ready .any ops listed=[i]:=by kernel_rfl) (hi:ops[i]? =some ⟨none,.store t a b,ty,pos,af,gd⟩:=by rfl) (hw:bI ops x.n g gd=some true:=by rfl) (hti:cI ttab t=some ti:=by rfl)
  (hlk:lk x.n g a=.one (.pt key o):=by rfl) (ho:bX ob key=some ⟨t',z',l⟩:=by rfl) (hb:zA (lk x.n g b)=some us:=by rfl) (hlo:fE us=true:=by rfl) (hsz:Nat.beq us.length ti.size=true:=by rfl) (hK:K.contains key=false:=by rfl):WD x ops Q late K fr true (fuel+1) listed g ob:=by
 have hne:∀j∈K,j≠key:=fun j hj e=>by
  subst e
  have:K.contains j=true:=by simpa using hj
  rw[hK]at this
  cases this
 refine Iu i hr hi hw (Es (ty:=ty) (pos:=pos) (af:=af) (gd:=gd) hT hti hlk hb hlo hsz ho hle hl) true (fun _=>⟨rfl,fun j hj hm=>?_⟩) (fun _=>rfl) (fun _ g' ob' hR=>?_) fun g' ob' hR=>?_
 ·rw[List.mem_singleton]at hm
  exact hne j hj hm
 ·obtain⟨rfl,rfl⟩:=hR
  exact⟨fun _ _=>rfl,fun j hj=>List.getElem?_set_ne (fun e=>hne j hj e.symm)⟩
 obtain⟨rfl,rfl⟩:=hR
 exact k
end
abbrev yL (x:Cx) (Q:Post):Post:=fun e g ob=>∃g' ob',Sub x g ob g' ob'∧Q e g' ob'
theorem WP.subQ {x:Cx}{c:Code}{g:Nat→FV}{ob:List (Option Ob)}{Q:Post}(h:WP x c g ob (yL x Q)):WP x c g ob Q:=fun ts W hR=>wp_mono (h ts W hR) fun e a w hq=>by
 cases e with
 | panic c=>exact hq
 | _=>
  obtain⟨g,ob,ts,rfl,h1,g',ob',hs,h2⟩:=hq
  exact⟨g',ob',ts,rfl,hs _ _ h1,h2⟩
theorem Ms {x:Cx}{e:Exit}{g g':Nat→FV}{ob ob':List (Option Ob)}{Q:Post}(h:Sub x g ob g' ob') (k:yL x Q e g' ob'):yL x Q e g ob:=by
 obtain⟨g2,ob2,h2,h3⟩:=k
 exact⟨g2,ob2,fun ts W hR=>h2 ts W (h ts W hR),h3⟩
theorem wK {x:Cx}{e:Exit}{g:Nat→FV}{ob:List (Option Ob)}{Q:Post}(h:Q e g ob):yL x Q e g ob:=⟨g,ob,fun _ _ h=>h,h⟩
theorem EC {T:List (Nat×TI)}{fresh:Bool}{P:Program}{f:FuncId}{fn:Func}{c:Code}{n:Nat}{rv:List ResultVar}{lent:List Lt}{args:List FV}{R:List Lt→FV→Prop}(hf:P.funcs[f]? =some fn) (hb:fn.body=some c) (hn:fn.ntmps=n) (hrv:fn.results.toList=rv) (hT:cL P T) (hle:Nat.ble args.length n=true)
  (h:∀N M w c0,c0.length=lent.length→WP ⟨P,N,M,w,n,c0⟩ c (bS (kI 0 args)) (aT lent) (yL ⟨P,N,M,w,n,c0⟩ (qM ⟨P,N,M,w,n,c0⟩ T rv fresh lent R))):aG fresh P f lent args R:=
 nG hf hb hn hrv hT hle fun N M w c0 h0=>(h N M w c0 h0).subQ
theorem QQ {T:List (Nat×TI)}{fresh:Bool}{P:Program}{f:FuncId}{fn:Func}{c:Code}{n:Nat}{rv:List ResultVar}{args:List FV}{R:List Lt→FV→Prop}(hf:P.funcs[f]? =some fn) (hb:fn.body=some c) (hn:fn.ntmps=n) (hrv:fn.results.toList=rv) (hT:cL P T) (hle:Nat.ble args.length n=true)
  (h:∀N w c0,c0.length=0→WP ⟨P,N,[],w,n,c0⟩ c (bS (kI 0 args)) [] (yL ⟨P,N,[],w,n,c0⟩ (qM ⟨P,N,[],w,n,c0⟩ T rv fresh [] R))):aG fresh P f [] args R:=
 cC hf hb hn hrv hT hle fun N w c0 h0=>(h N w c0 h0).subQ
def BE (fresh:Bool) (N:Nat→Prop) (M:List Nat) (w:World) (R:FV→Prop) (e:Ending) (W:World):Prop:=
 ∃v r y,e=.returned v∧R r∧Loc M w W [eN y] [(SB fresh [] [] r v y).on (fun b=>N b∨b∈M∨w.heap.size≤b)]
def xO (fresh:Bool) (P:Program) (f:FuncId) (lent:List Lt) (args:List FV) (R:FV→Prop):Prop:=
 ∀(N:Nat→Prop) (w:World) (cs:List Co) (us:List Value),Loc ((aF (aT lent) cs).flatMap Res.S) w w (aF (aT lent) cs) [(Nn lent cs args us).on N]→
  Calls P f us.toArray w (BE fresh N ((aF (aT lent) cs).flatMap Res.S) w R)
section
variable {x:Cx}{g g':Nat→FV}{ob ob':List (Option Ob)}{cs cs':List Co}{ts ts':Array Value}{W W':World}{T:List (Nat×TI)}{Q:Post}{ops:Array Oper}{rest:List Oper}{d:Nat}{op:Op}{ty:TypeId}{pos:String}{af:Array Edge}{gd:Option (Nat×Bool)}{v:FV}
theorem GP {fresh:Bool}{P:Program}{f:FuncId}{fn:Func}{c:Code}{lent:List Lt}{args:List FV}{R:FV→Prop}(hf:P.funcs[f]? =some fn) (hb:fn.body=some c) (T:List (Nat×TI)) (hT:cL P T) (hle:Nat.ble args.length fn.ntmps=true)
  (h:∀x:Cx,x.P=P→x.n=fn.ntmps→x.c0.length=lent.length→WP x c (bS (kI 0 args)) (aT lent) (qM x T fn.results.toList fresh [] fun _=>R)):xO fresh P f lent args R:=by
 intro N w cs us hL
 refine calls_of_wp hf hb ?_
 have hs0:=Sh.off (hL.sh 0 rfl)
 obtain⟨hobs,hfv⟩:=hs0
 have hus:=pP hfv
 have hle:args.length≤fn.ntmps:=bN hle
 let x:Cx:=⟨P,N,(aF (aT lent) cs).flatMap Res.S,w,fn.ntmps,cs⟩
 have hNx:∀b,(kH w (aF (aT lent) cs) b∧N b)→x.fr w (aT lent) cs b:=fun b hb=>⟨hb.1,.inl hb.2⟩
 have hsz:(us.toArray++Array.replicate (fn.ntmps-us.toArray.size) undef).size=fn.ntmps:=by simp;omega
 have hR:RelC x (bS (kI 0 args)) (aT lent) cs (us.toArray++Array.replicate (fn.ntmps-us.toArray.size) undef) w:=by
  refine .of hsz hL ⟨hobs.1,fun k o hk=>⟨cW (fun _ _=>rfl) hNx .refl _ _ (hobs.2 k o hk).1,(hobs.2 k o hk).2⟩⟩ (fun i hi=>?_) .refl
  have hi':i<(us.toArray++Array.replicate (fn.ntmps-us.toArray.size) undef).size:=by rw[hsz];exact hi
  refine⟨_,Array.getElem?_eq_getElem hi',?_⟩
  by_cases hu:i<us.length
  ·have:=xF (j:=0) (i:=i) hfv us[i] (dC hu)
   rw[Nat.zero_add]at this
   have e:(us.toArray++Array.replicate (fn.ntmps-us.toArray.size) undef)[i]=us[i]:=by
    rw[Array.getElem_append_left (by simpa using hu)]
    simp
   rw[e]
   exact fB (fun _ _=>rfl) hNx .refl _ _ this
  rw[xG (by omega)]
  trivial
 have hlen:=hR.len
 rw[fV]at hlen
 have hw:=h x rfl rfl hlen.symm _ w ⟨cs,hR⟩
 refine wp_mono hw fun e a W hq=>?_
 have main:∀g ob ts,a=⟨ts,[]⟩→Dn x g ob ts W→(∃rs r ks lent',EndA x T fn.results.toList fresh [] (fun _=>R) g ob rs r ks lent')→a.defers=[]∧∃v,(results fn a.tmps).run P W=.ok v W∧BE fresh N ((aF (aT lent) cs).flatMap Res.S) w R (.returned v) W:=by
  rintro g ob ts rfl ⟨cs2,hR2⟩ ⟨rs,r,ks,lent',hE⟩
  have hnt:∀v∈rs,∀l,v≠.tup l:=by
   rcases hE.pk with⟨v,rfl,hp⟩ | ⟨_,l,_,hp⟩
   ·intro v' hv' l
    simp at hv'
    subst hv'
    cases hp <;> simp
   exact tT hp
  obtain⟨us2,hrv,hfl⟩:=mM hT hR2 hE.res hnt
  have hrun:=uA hrv
  refine⟨rfl,_,hrun,?_⟩
  have hcoe:sJ ([]:List Lt).length cs2 []:=fun k hk=>absurd hk (Nat.not_lt_zero k)
  have hN0:∀b,x.fr W ob cs2 b→x.fr W ob cs2 b:=fun _ h=>h
  obtain⟨v,ys,hv,hro,hok,hsub⟩:∃(v:Value) (ys:List VT),v=(if h:us2.toArray.size=1 then us2.toArray[0]else .tuple us2.toArray)∧RO W (x.fr W ob cs2) [] r v ys∧VT.okL W ys∧(VT.fpL ys).Sublist (ks.flatMap fun k=>(aL (bX ob k) (co cs2 k)).S):=by
   rcases hE.pk with⟨v1,e1,hp⟩ | ⟨hne,l,rfl,hp⟩
   ·subst e1
    cases us2 with
    | nil=>simp only[dR]at hfl
    | cons u us2=>
     simp only[dR]at hfl
     obtain⟨hf1,hf2⟩:=hfl
     subst hf2
     obtain⟨ys,f2,f3,f4⟩:=hp.ok hcoe hR2 hN0 hf1
     exact⟨_,ys,rfl,by simpa using Nq f2,f3,f4⟩
   obtain⟨ys,f2,f3,f4⟩:=hp.ok hcoe hR2 hN0 hfl
   have hl:=pP hfl
   refine⟨_,ys,rfl,?_,f3,f4⟩
   rw[dif_neg (by simp;omega)]
   exact⟨us2,rfl,f2⟩
  have hks:∀k∈ks,(aF ob cs2)[k]? =some (aL (bX ob k) (co cs2 k))∨(aL (bX ob k) (co cs2 k)).S=[]:=fun k hk=>by
   cases hq:bX ob k with
   | none=>exact .inr (by simp[aL])
   | some o=>exact .inl (aY hR2.len (cX hq))
  have hS2:(ks.flatMap fun k=>(aL (bX ob k) (co cs2 k)).S)=(pick (aF ob cs2) ks).flatMap Res.S:=by
   clear hsub
   have hks':=hks
   clear hks hE
   induction ks with
   | nil=>rfl
   | cons k ks ih=>
    have ih:=ih (fun k' h=>hks' k' (List.mem_cons_of_mem _ h))
    unfold pick at ih⊢
    rw[List.flatMap_cons,ih,List.filterMap_cons]
    rcases hks' k (by simp)with h1 | h1
    ·rw[h1]
     simp
    rw[h1,List.nil_append]
    cases hq:(aF ob cs2)[k]? with
    | none=>rfl
    | some r'=>
     obtain⟨o,c,e1,e2,rfl⟩:=Bc hq
     have e3:(aL o c).S=[]:=by
      have hco2:co cs2 k=c:=by simp[co,e2]
      cases o with
      | none=>rfl
      | some o=>
       have:bX ob k=some o:=by simp[bX,e1]
       rw[this,hco2]at h1
       exact h1
     simp[e3]
  have hLp:=hR2.2.pick ks hE.nd
  have hsubS:(([eN ys]).flatMap Res.S).Sublist ((pick (aF ob cs2) ks).flatMap Res.S):=by
   rw[←hS2]
   simpa[eN]using hsub
  have hsubO:∀b,b∈([eN ys]).flatMap Res.S→b∈(aF ob cs2).flatMap Res.S:=fun b hb=>by
   have:=hsubS.subset hb
   obtain⟨r',hr',hb'⟩:=List.mem_flatMap.1 this
   obtain⟨i,_,hi⟩:=List.mem_filterMap.1 hr'
   exact List.mem_flatMap.2 ⟨r',List.mem_of_getElem? hi,hb'⟩
  have hfr:∀b,x.fr W ob cs2 b→kH W [eN ys] b∧(N b∨b∈(aF (aT lent) cs).flatMap Res.S∨w.heap.size≤b):=fun b hb=>⟨⟨hb.1.1,fun hm=>hb.1.2 (hsubO b hm)⟩,hb.2⟩
  refine⟨_,r,ys,by rw[←hv],hE.post,?_⟩
  refine⟨hR2.2.chg,fun q hq=>?_,fun b hb=>hLp.blk b (hsubS.subset hb),hLp.nd.sublist hsubS,fun q hq=>?_⟩
  ·simp at hq
   subst hq
   exact hok
  rw[List.mem_singleton]at hq
  subst hq
  show yF W _ [] (aT [])∧RO W _ [] r _ ys
  refine⟨⟨rfl,fun k o hk=>by simp[aT]at hk⟩,?_⟩
  cases hfresh:fresh with
  | false=>exact nL (fun _ _=>rfl) (fun b hb=>⟨rfl,hfr b hb⟩) .refl hro
  | true=>exact Db (hE.clean hfresh).1 hro
 cases e with
 | normal=>
  obtain⟨g,ob,ts,rfl,h1,h2⟩:=hq
  exact main g ob ts rfl h1 h2
 | ret=>
  obtain⟨g,ob,ts,rfl,h1,h2⟩:=hq
  exact main g ob ts rfl h1 h2
 | panic c=>exact hq.elim
 | exit id=>
  obtain⟨_,_,_,_,_,h2⟩:=hq
  exact h2.elim
 | goto l=>
  obtain⟨_,_,_,_,_,h2⟩:=hq
  exact h2.elim
 | outgrown=>
  obtain⟨_,_,_,_,_,h2⟩:=hq
  exact h2.elim
theorem Wj {fresh:Bool}{f:FuncId}{args:List FV}{R:FV→Prop}{lent:List Lt}{K:List Nat}{os:List Operand}{fst caps:List Tr}{fus cus:List Value}(hS:xO fresh x.P f lent (cR fst++args++cR caps) R) (hK:eH ob K K lent) (hnd:K.Nodup) (ha:jT x.n g K os args) (hfst:FRL W (x.fr W ob cs) fst fus) (hcap:FRL W (x.fr W ob cs) caps cus) (hR:RelC x g ob cs ts W):
  Calls x.P f (fus++os.map (Act.eval ⟨ts,[]⟩)++cus).toArray W (fun e W'=>∃v r ys N2,e=.returned v∧R r∧RO W' N2 [] r v ys∧VT.okL W' ys∧(VT.fpL ys).Nodup∧
   ∀(oz:List Ob) (csn:List Co),csn.length=oz.length→(∀b,((aF (oz.map some) csn).flatMap Res.S).count b≤(VT.fpL ys).count b)→(∀r∈aF (oz.map some) csn,r.φ W')→
    (∀b,N2 b→x.fr W' (bB ob K (bG K)++oz.map some) (cs++csn) b)∧
    ((∀i o,oz[i]? =some o→bR W' (x.fr W' (bB ob K (bG K)++oz.map some) (cs++csn)) (cs++csn) o.l (co csn i).l∧((co csn i).b=none→o.l=[]∧o.z≠0))→
     RelC x g (bB ob K (bG K)++oz.map some) (cs++csn) ts W'∧∀d,Aft K d ob cs ts W (bB ob K (bG K)++oz.map some) (cs++csn) ts W')):=by
 have hlen:=hR.len
 have hll:=rH hK
 have hKl:∀k∈K,k<ob.length:=fun k hk=>by
  obtain⟨i,hi⟩:=List.mem_iff_getElem?.1 hk
  obtain⟨a,l',_,_,h2⟩:=gC hK hi
  exact(List.getElem?_eq_some_iff.1 h2).1
 have hlobs:(aT lent).length=K.length:=by rw[fV,hll]
 have hput0:aF (bB ob K (aT lent)) cs=aF ob cs:=by
  have hl0:(bB ob K (aT lent)).length=cs.length:=by rw[fL];exact hlen
  apply List.ext_getElem?
  intro j
  by_cases hjl:j<ob.length
  ·by_cases hj:j∈K
   ·obtain⟨i,hi⟩:=List.mem_iff_getElem?.1 hj
    obtain⟨a,l',h1,_,h2⟩:=gC hK hi
    have h3:=jH hnd hlobs hi hjl
    rw[eL,h1]at h3
    rw[aY hl0 h3,aY hlen h2]
    exact congrArg some (iZ _ _)
   have h3:=fW (l:=aT lent) (ob:=ob) hj
   rw[dC hjl]at h3
   rw[aY hl0 h3,aY hlen (dC hjl)]
  rw[List.getElem?_eq_none (by rw[eK hl0];omega),List.getElem?_eq_none (by rw[eK hlen];omega)]
 have hputc:cH cs K (K.map (co cs))=cs:=by
  have key:∀(K:List Nat),(∀k∈K,k<cs.length)→cH cs K (K.map (co cs))=cs:=by
   intro K
   induction K with
   | nil=>intro _;rfl
   | cons k K ih=>
    intro h
    simp only[List.map_cons,cH]
    rw[pO (h k (by simp))]
    exact ih fun j hj=>h j (List.mem_cons_of_mem _ hj)
  exact key K fun k hk=>by rw[←hlen];exact hKl k hk
 have hcnt0:=fun b=>rN b (l:=aT lent) (lc:=K.map (co cs)) (cs:=cs) hnd hlobs (by simp) hlen hKl
 unfold dB at hcnt0
 rw[hputc,hput0]at hcnt0
 have hfr0:∀b,x.fr W ob cs b→kH W (aF (aT lent) (K.map (co cs))) b:=fun b hb=>And.intro hb.1.1 fun hm=>hb.1.2 (by
  have h1:=List.count_pos_iff.2 hm
  have h2:=hcnt0 b
  exact List.count_pos_iff.1 (show 0<((aF ob cs).flatMap Res.S).count b by omega))
 have hgetL:∀i k,K[i]? =some k→∃(a:Lt) (l':List AV),lent[i]? =some a∧renL K a.l=some l'∧ob[k]? =some (some (⟨a.t,a.z,l'⟩:Ob)):=fun i k hi=>gC hK hi
 have hφ0:∀r∈aF (aT lent) (K.map (co cs)),r.φ W:=fun r hr=>by
  obtain⟨i,hi⟩:=List.mem_iff_getElem?.1 hr
  have hil:=(List.getElem?_eq_some_iff.1 hi).1
  have hil2:i<K.length:=by
   rw[eK (by simp[hlobs])]at hil
   simpa using hil
  obtain⟨a,l',h1,_,h2⟩:=hgetL i K[i] (dC hil2)
  have e1:(aT lent)[i]? =some (some a.ob):=by rw[eL,h1];rfl
  rw[aY (by simp[hlobs]) e1,iY (dC hil2)]at hi
  injection hi with hi
  subst hi
  rw[show aL (some a.ob) (co cs K[i])=aL (some ⟨a.t,a.z,l'⟩) (co cs K[i]) from iZ _ _]
  exact hR.res h2
 have h1:Loc x.M x.w W (aF (aT lent) (K.map (co cs))++aF (bB ob K (bG K)) cs) []:=(hR.2.pickS []).cut (fun b=>by
  rw[List.flatMap_append,List.count_append]
  have:=hcnt0 b
  omega) (fun r hr=>by
  rcases List.mem_append.1 hr with hr | hr
  ·exact hφ0 r hr
  rcases jI hnd hlen hKl hr with hr | hr
  ·exact hR.2.res r hr
  exact hr.2 W)
 have h2:Loc ((aF (aT lent) (K.map (co cs))).flatMap Res.S) W W (aF (aT lent) (K.map (co cs))) [(Nn lent (K.map (co cs)) (cR fst++args++cR caps) (fus++os.map (Act.eval ⟨ts,[]⟩)++cus)).on (x.fr W ob cs)]:=by
  refine h1.focus.read _ ⟨⟨by simp[hlobs],fun k o hk=>?_⟩,pQ (pQ (mZ (fun b hb=>⟨hfr0 b hb,hb⟩) hfst) (Ew hR (fun b hb=>⟨hfr0 b hb,hb⟩) ha)) (mZ (fun b hb=>⟨hfr0 b hb,hb⟩) hcap)⟩
  rw[eL]at hk
  cases hq:lent[k]? with
  | none=>rw[hq]at hk;cases hk
  | some a=>
   rw[hq]at hk
   simp at hk
   subst hk
   have hkK:k<K.length:=by rw[←hll];exact(List.getElem?_eq_some_iff.1 hq).1
   obtain⟨a',l',q1,q0,q2⟩:=hgetL k K[k] (dC hkK)
   rw[hq]at q1
   injection q1 with q1
   subst q1
   have q3:=hR.obs.2 _ _ q2
   rw[iY (dC hkK)]
   exact⟨vI (fun b hb=>⟨hfr0 b hb,hb⟩) q0 q3.1,fun h=>⟨(sM q0).2 (q3.2 h).1,(q3.2 h).2⟩⟩
 refine(hS _ W _ _ h2).mono fun e W' hE=>?_
 obtain⟨v,r,ys,rfl,hr,h3⟩:=hE
 have h4:=Loc.turn h1 h3
 have hsh:=Sh.off (h3.sh 0 rfl)
 refine⟨v,r,ys,_,rfl,hr,hsh.2,h3.res (eN ys) (by simp),?_,fun oz csn hlz hcz hφz=>?_⟩
 ·have:=h3.nd
  simpa[eN]using this
 have hlen2:(bB ob K (bG K)).length=cs.length:=by rw[fL];exact hlen
 have hrs:aF (bB ob K (bG K)++oz.map some) (cs++csn)=aF (bB ob K (bG K)) cs++aF (oz.map some) csn:=by
  unfold aF
  rw[List.zipWith_append hlen2]
 have hcnt2:∀b,(dB (bB ob K (bG K)++oz.map some) (cs++csn)).count b≤(([eN ys]++aF (bB ob K (bG K)) cs).flatMap Res.S).count b:=fun b=>by
  have q2:=hcz b
  unfold dB
  rw[hrs,List.flatMap_append,List.count_append,List.flatMap_append,List.count_append,List.flatMap_cons,List.flatMap_nil,List.append_nil]
  have q3:(eN ys).S=VT.fpL ys:=rfl
  rw[q3]
  omega
 have hin2:∀b,b∈dB (bB ob K (bG K)++oz.map some) (cs++csn)→b∈([eN ys]++aF (bB ob K (bG K)) cs).flatMap Res.S:=fun b hb=>List.count_pos_iff.1 (Nat.lt_of_lt_of_le (List.count_pos_iff.2 hb) (hcnt2 b))
 have hrest:∀b,b∈(aF (bB ob K (bG K)) cs).flatMap Res.S→b∈dB ob cs:=fun b hb=>by
  obtain⟨r,hr,hb⟩:=List.mem_flatMap.1 hb
  rcases jI hnd hlen hKl hr with hr | hr
  ·exact List.mem_flatMap.2 ⟨r,hr,hb⟩
  rw[hr.1]at hb
  cases hb
 have hlentS:∀b,b∈(aF (aT lent) (K.map (co cs))).flatMap Res.S→b∈dB ob cs:=fun b hb=>by
  have q1:=List.count_pos_iff.2 hb
  have q2:=hcnt0 b
  exact List.count_pos_iff.1 (show 0<((aF ob cs).flatMap Res.S).count b by omega)
 have hfree:∀b,kH W' [eN ys] b→(x.fr W ob cs b∨b∈(aF (aT lent) (K.map (co cs))).flatMap Res.S∨W.heap.size≤b)→x.fr W' (bB ob K (bG K)++oz.map some) (cs++csn) b:=fun b hb hb'=>by
  refine⟨⟨hb.1,fun hm=>?_⟩,?_⟩
  ·have hm:=hin2 b hm
   rw[List.flatMap_append,List.mem_append]at hm
   rcases hm with hm | hm
   ·exact hb.2 hm
   have hm2:=hrest b hm
   rcases hb' with hb' | hb' | hb'
   ·exact hb'.1.2 hm2
   ·have q1:=hcnt0 b
    have q2:=List.nodup_iff_count.1 hR.2.nd b
    have q3:=List.count_pos_iff.2 hb'
    have q4:=List.count_pos_iff.2 hm
    unfold dB at q1
    omega
   have:=(hR.2.blk b hm2).2
   omega
  rcases hb' with hb' | hb' | hb'
  ·exact hb'.2
  ·exact .inr (hR.2.blk b (hlentS b hb')).1
  exact .inr (.inr (Nat.le_trans hR.2.chg.size hb'))
 have hsize:W.heap.size≤W'.heap.size:=h3.chg.size
 have hfr:∀b,x.fr W ob cs b→x.fr W' (bB ob K (bG K)++oz.map some) (cs++csn) b:=fun b hb=>by
  refine hfree b ⟨Nat.lt_of_lt_of_le hb.1.1 hsize,fun hm=>?_⟩ (.inl hb)
  have q1:=h3.blk b hm
  rcases q1.1 with q1 | q1
  ·exact hb.1.2 (hlentS b q1)
  have:=hb.1.1
  omega
 have hkeep:∀b,x.fr W ob cs b→W'.heap[b]? =W.heap[b]? :=fun b hb=>h3.chg.block b hb.1.1 (fun hm=>hb.1.2 (hlentS b hm))
 refine⟨fun b hb=>hfree b hb.2.1 hb.2.2,fun hoz=>?_⟩
 have happ:∀{k},k<cs.length→co (cs++csn) k=co cs k:=fun hk=>by simp[co,List.getElem?_append_left hk]
 have hsame3:Same cs (cs++csn):=⟨by simp,fun k hk=>by rw[happ hk];exact⟨rfl,rfl⟩⟩
 have hnone:∀{k:Nat},k∈K→k<ob.length→(bB ob K (bG K))[k]? =some none:=fun{k} hk hl=>by
  obtain⟨i,hi⟩:=List.mem_iff_getElem?.1 hk
  rw[jH hnd (by simp[bG]) hi hl]
  simp[bG,hi]
 have hLf:Loc x.M x.w W' (aF (bB ob K (bG K)++oz.map some) (cs++csn)) []:=h4.cut hcnt2 (fun r hr=>by
  rw[hrs]at hr
  rcases List.mem_append.1 hr with hr | hr
  ·exact h4.res _ (List.mem_append_right _ hr)
  exact hφz r hr)
 refine⟨.of hR.1 hLf ⟨by rw[cO,cO,hlen2,dF,hlz],fun k o hk=>?_⟩ (fun i hi=>?_) (hR.3.trans hsame3),fun d=>⟨hsame3,fun k hk hkc=>?_,hsize,fun b hlt hb=>?_,fun b hb=>?_,fun _ _=>rfl⟩⟩
 ·rcases Nat.lt_or_ge k (bB ob K (bG K)).length with hlt | hge
  ·rw[List.getElem?_append_left hlt]at hk
   rw[happ (by rw[←hlen2];exact hlt)]
   rw[fL]at hlt
   by_cases hkK:k∈K
   ·rw[hnone hkK hlt]at hk
    injection hk with hk
    cases hk
   rw[fW hkK]at hk
   have q1:=hR.obs.2 k o hk
   exact⟨cW hkeep hfr hsame3 _ _ q1.1,q1.2⟩
  rw[List.getElem?_append_right hge]at hk
  have ho:oz[k-(bB ob K (bG K)).length]? =some o:=by
   rw[List.getElem?_map]at hk
   cases hq:oz[k-(bB ob K (bG K)).length]? with
   | none=>rw[hq]at hk;cases hk
   | some o'=>
    rw[hq]at hk
    simp at hk
    rw[hk]
  have q1:=hoz _ o ho
  have e:co (cs++csn) k=co csn (k-(bB ob K (bG K)).length):=by
   unfold co
   rw[List.getElem?_append_right (by rw[←hlen2];exact hge),hlen2]
  rw[e]
  exact q1
 ·obtain⟨u,q1,q2⟩:=hR.fv hi
  exact⟨u,q1,fB hkeep hfr hsame3 _ _ q2⟩
 ·rw[happ hkc]
 ·refine h3.chg.block b hlt fun hm=>?_
  obtain⟨r,hr,hbr⟩:=List.mem_flatMap.1 hm
  obtain⟨i,hi⟩:=List.mem_iff_getElem?.1 hr
  have hil:=(List.getElem?_eq_some_iff.1 hi).1
  have hil2:i<K.length:=by
   rw[eK (by simp[hlobs])]at hil
   simpa using hil
  obtain⟨a,l',q1,_,q2⟩:=hgetL i K[i] (dC hil2)
  have e1:(aT lent)[i]? =some (some a.ob):=by rw[eL,q1];rfl
  rw[aY (by simp[hlobs]) e1,iY (dC hil2)]at hi
  injection hi with hi
  subst hi
  rw[show aL (some a.ob) (co cs K[i])=aL (some ⟨a.t,a.z,l'⟩) (co cs K[i]) from iZ _ _]at hbr
  exact hb K[i] (List.getElem_mem hil2) _ q2 hbr
 have q1:=hin2 b hb
 rw[List.flatMap_append,List.mem_append]at q1
 rcases q1 with q1 | q1
 ·rcases(h3.blk b (by simpa using q1)).1 with q2 | q2
  ·exact .inl (hlentS b q2)
  exact .inr q2
 exact .inl (hrest b q1)
theorem Pb {fresh:Bool}{f:FuncId}{args:List FV}{R:FV→Prop}{lent:List Lt}{K:List Nat}{aa:Array Operand}{ats:Array TypeId}{cf:Operand}{fst caps:List Tr}{key:Nat}(hS:xO fresh x.P f lent (cR fst++args++cR caps) R) (hf:CallOk x.P f) (hc:Ry x g cf f fst caps) (hK:eH ob K K lent) (hnd:K.Nodup) (ha:jT x.n g K aa.toList args) (hk:eD ob key=true) (hb:∀r,R r→(jP key r).isSome=true):
  OS x ⟨some d,.call ⟨.value cf,aa,ats⟩,ty,pos,af,gd⟩ g ob K (fun g' ob'=>∃r v os,R r∧jP key r=some (v,os)∧g'=bF g d v∧ob'=bB ob K (bG K)++os.map some):=by
 intro cs ts W hR K' Q kk
 obtain⟨us0,us,e0,hfst,hcap⟩:=hc ob cs ts W hR
 unfold Oper.wp
 rw[kD hf e0]
 refine(Wj hS hK hnd ha hfst hcap hR).mono fun e W' hE=>?_
 obtain⟨v,r,ys,N2,rfl,hr,hro,hok,hndy,fin⟩:=hE
 have hb1:=hb r hr
 obtain⟨⟨v',os⟩,hbn⟩:=Option.isSome_iff_exists.1 hb1
 obtain⟨csn,e1,e2,e3,e4⟩:=yM (Jv hbn hro) hok hbn
 obtain⟨hN,hfin⟩:=fin os csn e1 (fun b=>by rw[e2];exact bC _) e3
 have hk:=Nat.eq_of_beq_eq_true hk
 have hpl:cs.length=key:=by rw[←hR.len,hk]
 obtain⟨g1,g2⟩:=e4 _ (cs++csn) hN (by simp[hpl,e1]) (fun i _=>by
  unfold co
  rw[List.getElem?_append_right (by omega),hpl,show key+i-key=i by omega])
 obtain⟨m1,m2⟩:=hfin g2
 exact kk _ _ _ _ _ ⟨r,v',os,hr,hbn,rfl,rfl⟩ (m1.put d g1) ((m2 (some d)).then_put v)
theorem cm {fresh:Bool}{f:FuncId}{lent:List Lt}{args:List FV}{r:FV}{os:List Ob}{aa:Array Operand}{ats:Array TypeId}(key:Nat) (K:List Nat) (hS:xO fresh x.P f lent args (· =r)) (hf:CallOk x.P f) (hK:eH ob K K lent) (ha:jT x.n g K aa.toList args) (k:WL x ops rest (bF g d v) (bB ob K (bG K)++os.map some) Q) (hw:bI ops x.n g gd=some true:=by rfl) (hk:eD ob key=true:=by rfl) (hnd:K.Nodup:=by decide) (hb:jP key r=some (v,os):=by rfl):
  WL x ops (⟨some d,.call ⟨.value (.func f),aa,ats⟩,ty,pos,af,gd⟩::rest) g ob Q:=by
 have e:cR []++args++cR []=args:=by simp[cR]
 refine jE (Pb (by rw[e];exact hS) hf (tM f) hK hnd ha hk (by rintro _ rfl;rw[hb];rfl)) hw ?_
 rintro _ _ ⟨r',v',os',rfl,h,rfl,rfl⟩
 rw[hb]at h
 injection h with h
 injection h with h1 h2
 subst h1 h2
 exact k
theorem Fh {late:Nat→Bool}{K fr:List Nat}{fuel:Nat}{listed:Array Bool}{fresh:Bool}{f:FuncId}{lent:List Lt}{args:List FV}{r:FV}{os:List Ob}{aa:Array Operand}{ats:Array TypeId}(i key:Nat) (Kl:List Nat) (hi:ops[i]? =some ⟨some d,.call ⟨.value (.func f),aa,ats⟩,ty,pos,af,gd⟩) (hS:xO fresh x.P f lent args (· =r)) (hf:CallOk x.P f) (hK:eH ob Kl Kl lent) (ha:jT x.n g Kl aa.toList args) (hke:jV ob (bB ob Kl (bG Kl)++os.map some) K) (k:WD x ops Q late K (d::fr) true fuel (listed.setIfInBounds i true) (bF g d v) (bB ob Kl (bG Kl)++os.map some)) (hr:Region.ready .any ops listed=[i]:=by kernel_rfl) (hw:bI ops x.n g gd=some true:=by rfl) (hk:eD ob key=true:=by rfl) (hnd:Kl.Nodup:=by decide) (hdis:∀k∈K,k∉Kl:=by decide) (hb:jP key r=some (v,os):=by rfl):
  WD x ops Q late K fr true (fuel+1) listed g ob:=by
 have e:cR []++args++cR []=args:=by simp[cR]
 refine IZ i hr hi rfl hw (Pb (by rw[e];exact hS) hf (tM f) hK hnd ha hk (by rintro _ rfl;rw[hb];rfl)) hdis ?_ ?_
 ·rintro _ _ ⟨r',v',os',rfl,h,rfl,rfl⟩
  rw[hb]at h
  injection h with h
  injection h with h1 h2
  subst h1 h2
  exact⟨⟨_,rfl⟩,gL hke⟩
 rintro _ _ ⟨r',v',os',rfl,h,rfl,rfl⟩
 rw[hb]at h
 injection h with h
 injection h with h1 h2
 subst h1 h2
 exact k
theorem fnM {fresh:Bool}{P:Program}{f:FuncId}{fn:Func}{c:Code}{n:Nat}{rv:List ResultVar}{lent:List Lt}{args:List FV}{R:FV→Prop}(hf:P.funcs[f]? =some fn) (hb:fn.body=some c) (hn:fn.ntmps=n) (hrv:fn.results.toList=rv) (hT:cL P T) (hle:Nat.ble args.length n=true)
  (h:∀N M w c0,c0.length=lent.length→WP ⟨P,N,M,w,n,c0⟩ c (bS (kI 0 args)) (aT lent) (yL ⟨P,N,M,w,n,c0⟩ (qM ⟨P,N,M,w,n,c0⟩ T rv fresh [] fun _=>R))):xO fresh P f lent args R:=by
 subst hn hrv
 refine GP hf hb T hT hle ?_
 rintro⟨P',N,M,w,n,c0⟩ rfl rfl h0
 exact(h N M w c0 h0).subQ
end
end Go.Proofs.YtbbabfkgdnkehaaGreat
